import Derived.Test.YtbdinipcomjmeaaGreatDoorChecked
import Derived.Test.YtbdinipcomjmeaaGreatDoorRkBFnBenchTable
import Derived.WalkKit
import Derived.Laws.OwnMore
import Derived.Deep.MidRow
import Derived.Test.YtbdinipcomjmeaaGreatDoorShelf
import Derived.Laws.BytesArg
import Derived.Lib.ItoaLen
import Derived.Deep.DrawnRows
namespace Go.Proofs.YtbdinipcomjmeaaGreatDoor
open Go Go.Sx Go.RowKit
set_option maxRecDepth 100000
attribute [local go_sem ↓] Go.wp_at_zero Go.wp_at_succ
def lib (lv : LibV) : List (Nat × List Sc) := lv.tail 4 7 8
def glb : List (Nat × List Sc) := [(2, [.e (.int .i64 (0)), .e (.int .i64 (0)), .e (.int .i64 (1))]), (0, [.e (.int .i64 (1)), .e (.int .i64 (0)), .e (.int .i64 (1))]), (1, [.e (.int .i64 (1)), .e (.int .i64 (0)), .e (.int .i64 (1)), .e (.int .i64 (0)), .e (.int .i64 (0)), .e (.int .i64 (1)), .e (.int .i64 (0)), .e (.int .i64 (0)), .e (.int .i64 (1)), .e (.int .i64 (1)), .e (.int .i64 (0)), .e (.int .i64 (1))]), (3, [.e (.int .i64 (1)), .e (.int .i64 (0)), .e (.int .i64 (1)), .e (.int .i64 (0)), .e (.int .i64 (1)), .e (.int .i64 (1)), .e (.int .i64 (-1)), .e (.int .i64 (0)), .e (.int .i64 (1)), .e (.int .i64 (0)), .e (.int .i64 (-1)), .e (.int .i64 (1))]), (9, Lib.pow10Tab.map fun z => Sc.e (.int .u64 z))]
theorem mixed : Tryz.prog.follows .mixedOrders = true := by kernel_rfl
abbrev ζc0 : List Sc := [.e (.var 0), .e (.var 1), .e (.var 2), .e (.var 3), .e (.var 4), .e (.var 5), .e (.var 6), .e (.var 7), .e (.var 8), .e (.var 9), .e (.var 10), .e (.var 11), .e (.var 12), .e (.var 13), .e (.var 14), .e (.var 15), .e (.var 16), .e (.var 17), .e (.var 18), .e (.var 19), .e (.var 20), .e (.var 21), .e (.var 22), .e (.var 23), .e (.var 24), .e (.var 25), .e (.var 26), .e (.var 27), .e (.var 28), .e (.var 29), .e (.var 30), .e (.var 31), .e (.var 32), .e (.var 33), .e (.var 34), .e (.var 35), .e (.var 36), .e (.var 37), .e (.var 38), .e (.var 39), .e (.var 40), .e (.var 41), .e (.var 42), .e (.var 43), .e (.var 44), .e (.var 45), .e (.var 46), .e (.var 47)]
abbrev ζc1 : List Sc := [.e (.var 0), .e (.var 1), .e (.var 2), .e (.var 3), .e (.var 4), .e (.var 5), .e (.var 6), .e (.var 7), .e (.var 8), .e (.var 9), .e (.var 10), .e (.var 11)]
abbrev ζc2 : List Ty := [.int .i64, .int .i64, .int .i64, .int .i64, .int .i64, .int .i64, .int .i64, .int .i64, .int .i64, .int .i64, .int .i64, .int .i64, .int .i64, .int .i64, .int .i64, .int .i64, .int .i64, .int .i64, .int .i64, .int .i64, .int .i64, .int .i64, .int .i64, .int .i64, .int .i64, .int .i64, .int .i64, .int .i64, .int .i64, .int .i64, .int .i64, .int .i64, .int .i64, .int .i64, .int .i64, .int .i64, .int .i64, .int .i64, .int .i64, .int .i64, .int .i64, .int .i64, .int .i64, .int .i64, .int .i64, .int .i64, .int .i64, .int .i64]
abbrev ζc3 : List Ty := [.int .i64, .int .i64, .int .i64, .int .i64, .int .i64, .int .i64, .int .i64, .int .i64, .int .i64, .int .i64, .int .i64, .int .i64, .int .i64, .int .i64, .int .i64, .int .i64, .int .i64, .int .i64, .int .i64, .int .i64, .int .i64, .int .i64, .int .i64, .int .i64, .int .i64, .int .i64, .int .i64, .int .i64, .int .i64, .int .i64, .int .i64, .int .i64, .int .i64, .int .i64, .int .i64, .int .i64, .int .i64, .int .i64, .int .i64, .int .i64, .int .i64, .int .i64, .int .i64, .int .i64, .int .i64, .int .i64, .int .i64, .int .i64, .bool]
abbrev ζc4 : List Ty := [.int .i64, .int .i64, .int .i64, .int .i64, .int .i64, .int .i64, .int .i64, .int .i64, .int .i64, .int .i64, .int .i64, .int .i64, .bool]
abbrev ζc5 : List Sc := [.e (.var 0), .e (.var 1), .e (.var 2)]
abbrev ζc6 : List Ty := [.int .i64, .int .i64, .int .i64, .bool]
abbrev ζc7 : List Ty := [.int .i64, .int .i64, .int .i64, .int .i64, .int .i64, .int .i64, .int .i64, .int .i64, .int .i64, .int .i64, .int .i64, .int .i64]
abbrev ζc8 : List Ty := [.int .i64, .int .i64, .int .i64, .int .i64, .int .i64, .int .i64, .int .i64, .int .i64, .int .i64, .int .i64, .int .i64, .int .i64, .int .i64, .int .i64, .int .i64, .int .i64, .int .i64, .int .i64, .int .i64, .int .i64, .int .i64, .int .i64, .int .i64, .int .i64, .bool]
abbrev ζc9 : List Ty := [.int .i64, .int .i64, .int .i64, .int .i64, .int .i64, .int .i64, .int .i64, .int .i64, .int .i64, .int .i64, .int .i64, .int .i64, .int .i64, .int .i64, .int .i64, .int .i64, .int .i64, .int .i64, .int .i64, .int .i64, .int .i64, .int .i64, .int .i64, .int .i64, .int .i64, .int .i64, .int .i64, .int .i64, .int .i64, .int .i64, .int .i64, .int .i64, .int .i64, .int .i64, .int .i64, .int .i64, .int .i64, .int .i64, .int .i64, .int .i64, .int .i64, .int .i64, .int .i64, .int .i64, .int .i64, .int .i64, .int .i64, .int .i64, .int .i64, .int .i64, .int .i64, .int .i64, .int .i64, .int .i64, .int .i64, .int .i64, .int .i64, .int .i64, .int .i64, .int .i64, .int .i64, .int .i64, .int .i64, .int .i64, .int .i64, .int .i64, .int .i64, .int .i64, .int .i64, .int .i64, .int .i64, .int .i64, .int .i64, .int .i64, .int .i64, .int .i64, .int .i64, .int .i64, .int .i64, .int .i64, .int .i64, .int .i64, .int .i64, .int .i64, .int .i64, .int .i64, .int .i64, .int .i64, .int .i64, .int .i64, .int .i64, .int .i64, .int .i64, .int .i64, .int .i64, .int .i64]
abbrev ζc10 : List Sc := [.e (.var 12), .e (.var 13), .e (.var 14), .e (.var 15), .e (.var 16), .e (.var 17), .e (.var 18), .e (.var 19), .e (.var 20), .e (.var 21), .e (.var 22), .e (.var 23)]
abbrev ζc11 : List Ty := [.int .i64, .int .i64, .int .i64, .int .i64, .int .i64, .int .i64, .int .i64, .int .i64, .int .i64, .int .i64, .int .i64, .int .i64, .int .i64, .int .i64, .int .i64, .int .i64, .int .i64, .int .i64, .int .i64, .int .i64, .int .i64, .int .i64, .int .i64, .int .i64, .int .i64, .int .i64, .int .i64, .bool]
abbrev ζc12 : List CV := [.ag ζc0, .ag [.e (.var 48), .e (.var 49), .e (.var 50), .e (.var 51), .e (.var 52), .e (.var 53), .e (.var 54), .e (.var 55), .e (.var 56), .e (.var 57), .e (.var 58), .e (.var 59), .e (.var 60), .e (.var 61), .e (.var 62), .e (.var 63), .e (.var 64), .e (.var 65), .e (.var 66), .e (.var 67), .e (.var 68), .e (.var 69), .e (.var 70), .e (.var 71), .e (.var 72), .e (.var 73), .e (.var 74), .e (.var 75), .e (.var 76), .e (.var 77), .e (.var 78), .e (.var 79), .e (.var 80), .e (.var 81), .e (.var 82), .e (.var 83), .e (.var 84), .e (.var 85), .e (.var 86), .e (.var 87), .e (.var 88), .e (.var 89), .e (.var 90), .e (.var 91), .e (.var 92), .e (.var 93), .e (.var 94), .e (.var 95)]]
abbrev ζc13 : List Sc := [.e (.var 3), .e (.var 4), .e (.var 5)]
abbrev ζc14 : List Ty := [.int .i64, .int .i64, .int .i64]
abbrev ζc15 : Sc := (.e (.var 0))
abbrev ζc16 : List Ty := [.int .i64, .int .i64, .int .i64, .int .i64, .int .i64, .int .i64]
abbrev ζc17 : List Ty := [.int .i64, .int .i64, .int .i64, .int .i64, .int .i64, .int .i64, .bool]
abbrev ζc18 : Sc := (.p (.own 0) 0)
abbrev ζc19 : Sc := (.e (.int .i64 (1)))
abbrev ζc20 : List Sc := [.e (.var 15), .e (.var 16), .e (.var 17), .e (.var 18), .e (.var 19), .e (.var 20), .e (.var 21), .e (.var 22), .e (.var 23), .e (.var 24), .e (.var 25), .e (.var 26)]
abbrev ζc21 : List Sc := [.e (.var 3), .e (.var 4), .e (.var 5), .e (.var 6), .e (.var 7), .e (.var 8), .e (.var 9), .e (.var 10), .e (.var 11), .e (.var 12), .e (.var 13), .e (.var 14)]
abbrev ζc22 : List CV := [.ag ζc5, .s (.e (.var 3))]
abbrev ζc23 : List CV := [.ag ζc1, .s (.e (.var 12))]
abbrev ζc24 : List CV := [.s ζc15, .s (.e (.var 1))]
abbrev ζc25 : List Sc := [.e (.var 3)]
abbrev ζc26 : List Ty := [.int .i64, .int .i64, .int .i64, .int .i64, .int .i64, .int .i64, .int .i64, .int .i64, .int .i64, .int .i64, .int .i64, .int .i64, .int .i64, .int .i64, .int .i64, .int .i64, .int .i64, .int .i64, .int .i64, .int .i64, .int .i64, .int .i64, .int .i64, .int .i64]
abbrev ζc27 : List CV := [.s ζc15, .s (.e (.var 1)), .s (.e (.var 2))]
abbrev ζc28 : List CV := [.ag ζc0, .s (.e (.var 48))]
abbrev ζc29 : Sc := (.e (.int .i64 (0)))
abbrev ζc30 : Sc := (.e (.int .i64 (-1)))
abbrev ζc31 : List Sc := [.e (.var 1), .e (.var 2)]
abbrev ζc32 : Sc := (.e (.int .i64 (2)))
abbrev ζc33 : CV := (.ag ζc5)
abbrev ζc34 : Sc := (.e (.int .i64 (3)))
abbrev ζc35 : List Sc := [.e (.var 12)]
abbrev ζc36 : List Ty := [.int .i64, .int .i64, .int .i64, .int .i64, .int .i64, .int .i64, .int .i64, .int .i64, .int .i64, .int .i64, .int .i64, .int .i64, .bool, .bool]
abbrev ζc37 : CV := (.s ζc15)
abbrev ζc38 : List Ty := [.int .i64, .int .i64]
abbrev ζc39 : List CV := [.ag ζc5, .ag ζc13]
abbrev ζc40 : List Sc := [.e (.int .i64 (2)), .e (.int .i64 (0)), .e (.int .i64 (1))]
abbrev ζc41 : List Sc := [.e (.var 0), .e (.var 1)]
def sg_size : Sig := { args := [.s ζc15], pre := [], tin := [.int .i64], gin := [], res := .c ζc37, post := [], tout := [.int .i64], gout := [] }
def cl_size : List (Nat × Sig) := []
theorem run_size : (fun H : List (Nat × List Sc) => run ⟨Tryz.prog, glb ++ H, cl_size⟩ [] Tryz.f100 sg_size (Tryz.f100.body.getD .skip)) = fun _ => tr_size := by kernel_rfl
theorem om_size (lv : LibV) : ΩOK ⟨Tryz.prog, (glb ++ lib lv), cl_size⟩ (specsOf Fs_size) := ΩOK_nil
theorem con_size (lv : LibV) : ConOK Tryz.prog (glb ++ lib lv) 100 sg_size F_size.spec := conOK_tree (om_size lv) mixed Tryz.func100 (by kernel_rfl) (congrFun run_size (lib lv))
def sg_within : Sig := { args := ζc27, pre := [], tin := ζc14, gin := [], res := .c ζc37, post := [], tout := [.bool], gout := [] }
def cl_within : List (Nat × Sig) := []
theorem run_within : (fun H : List (Nat × List Sc) => run ⟨Tryz.prog, glb ++ H, cl_within⟩ [] Tryz.f82 sg_within (Tryz.f82.body.getD .skip)) = fun _ => tr_within := by kernel_rfl
theorem om_within (lv : LibV) : ΩOK ⟨Tryz.prog, (glb ++ lib lv), cl_within⟩ (specsOf Fs_within) := ΩOK_nil
theorem con_within (lv : LibV) : ConOK Tryz.prog (glb ++ lib lv) 82 sg_within F_within.spec := conOK_tree (om_within lv) mixed Tryz.func82 (by kernel_rfl) (congrFun run_within (lib lv))
theorem cong_within (lv : LibV) : ConOK Tryz.prog (glb ++ lib lv) 82 sg_within G_within.spec := (con_within lv).as as_within
def sg_l6In : Sig := { args := ζc27, pre := [], tin := ζc14, gin := [], res := .c ζc37, post := [], tout := [.bool], gout := [] }
def cl_l6In : List (Nat × Sig) := []
theorem run_l6In : (fun H : List (Nat × List Sc) => run ⟨Tryz.prog, glb ++ H, cl_l6In⟩ [] Tryz.f85 sg_l6In (Tryz.f85.body.getD .skip)) = fun _ => tr_l6In := by kernel_rfl
theorem om_l6In (lv : LibV) : ΩOK ⟨Tryz.prog, (glb ++ lib lv), cl_l6In⟩ (specsOf Fs_l6In) := ΩOK_nil
theorem con_l6In (lv : LibV) : ConOK Tryz.prog (glb ++ lib lv) 85 sg_l6In F_l6In.spec := conOK_tree (om_l6In lv) mixed Tryz.func85 (by kernel_rfl) (congrFun run_l6In (lib lv))
theorem cong_l6In (lv : LibV) : ConOK Tryz.prog (glb ++ lib lv) 85 sg_l6In G_l6In.spec := (con_l6In lv).as as_l6In
def sg_l2In : Sig := { args := [.s ζc15], pre := [], tin := [.int .i64], gin := [], res := .c ζc37, post := [], tout := [.bool], gout := [] }
def cl_l2In : List (Nat × Sig) := [(85, sg_l6In)]
theorem run_l2In : (fun H : List (Nat × List Sc) => run ⟨Tryz.prog, glb ++ H, cl_l2In⟩ [] Tryz.f108 sg_l2In (Tryz.f108.body.getD .skip)) = fun _ => tr_l2In := by kernel_rfl
theorem om_l2In (lv : LibV) : ΩOK ⟨Tryz.prog, (glb ++ lib lv), cl_l2In⟩ (specsOf Fs_l2In) := (ΩOK_cons (cong_l6In lv) Tryz.call85 ΩOK_nil)
theorem con_l2In (lv : LibV) : ConOK Tryz.prog (glb ++ lib lv) 108 sg_l2In F_l2In.spec := conOK_tree (om_l2In lv) mixed Tryz.func108 (by kernel_rfl) (congrFun run_l2In (lib lv))
theorem cong_l2In (lv : LibV) : ConOK Tryz.prog (glb ++ lib lv) 108 sg_l2In G_l2In.spec := (con_l2In lv).as as_l2In
def sg_divisor : Sig := { args := ζc24, pre := [], tin := ζc38, gin := [], res := .c ζc37, post := [], tout := [.int .i64], gout := [] }
def cl_divisor : List (Nat × Sig) := []
theorem run_divisor : (fun H : List (Nat × List Sc) => run ⟨Tryz.prog, glb ++ H, cl_divisor⟩ [(0, ⟨[(0, .int .i64), (1, .int .i64)], [], none⟩)] Tryz.f99 sg_divisor (Tryz.f99.body.getD .skip)) = fun _ => tr_divisor := by kernel_rfl
theorem om_divisor (lv : LibV) : ΩOK ⟨Tryz.prog, (glb ++ lib lv), cl_divisor⟩ (specsOf Fs_divisor) := ΩOK_nil
theorem con_divisor (lv : LibV) : ConOK Tryz.prog (glb ++ lib lv) 99 sg_divisor F_divisor.spec := conOK_of (om_divisor lv) mixed Tryz.func99 (by kernel_rfl) (congrFun run_divisor (lib lv)) (fun ins K ht h => sat_divisor Tryz.prog ins K ht h.1 h.2)
def sg_l2Gcd : Sig := { args := ζc24, pre := [], tin := ζc38, gin := [], res := .c ζc37, post := [], tout := [.int .i64], gout := [] }
def cl_l2Gcd : List (Nat × Sig) := []
theorem run_l2Gcd : (fun H : List (Nat × List Sc) => run ⟨Tryz.prog, glb ++ H, cl_l2Gcd⟩ [(0, ⟨[(0, .int .i64), (1, .int .i64)], [], none⟩)] Tryz.f109 sg_l2Gcd (Tryz.f109.body.getD .skip)) = fun _ => tr_l2Gcd := by kernel_rfl
theorem om_l2Gcd (lv : LibV) : ΩOK ⟨Tryz.prog, (glb ++ lib lv), cl_l2Gcd⟩ (specsOf Fs_l2Gcd) := ΩOK_nil
theorem con_l2Gcd (lv : LibV) : ConOK Tryz.prog (glb ++ lib lv) 109 sg_l2Gcd F_l2Gcd.spec := conOK_of (om_l2Gcd lv) mixed Tryz.func109 (by kernel_rfl) (congrFun run_l2Gcd (lib lv)) (fun ins K ht h => sat_l2Gcd Tryz.prog ins K ht h.1 h.2)
def sg_lowest : Sig := { args := ζc27, pre := [], tin := ζc14, gin := [], res := .tu ζc22, post := [], tout := ζc6, gout := [] }
def cl_lowest : List (Nat × Sig) := [(100, sg_size), (99, sg_divisor), (82, sg_within)]
theorem run_lowest : (fun H : List (Nat × List Sc) => run ⟨Tryz.prog, glb ++ H, cl_lowest⟩ [] Tryz.f74 sg_lowest (Tryz.f74.body.getD .skip)) = fun _ => tr_lowest := by kernel_rfl
theorem om_lowest (lv : LibV) : ΩOK ⟨Tryz.prog, (glb ++ lib lv), cl_lowest⟩ (specsOf Fs_lowest) := (ΩOK_cons (con_size lv) Tryz.call100 (ΩOK_cons (con_divisor lv) Tryz.call99 (ΩOK_cons (cong_within lv) Tryz.call82 ΩOK_nil)))
theorem con_lowest (lv : LibV) : ConOK Tryz.prog (glb ++ lib lv) 74 sg_lowest F_lowest.spec := conOK_tree (om_lowest lv) mixed Tryz.func74 (by kernel_rfl) (congrFun run_lowest (lib lv))
theorem cong_lowest (lv : LibV) : ConOK Tryz.prog (glb ++ lib lv) 74 sg_lowest G_lowest.spec := (con_lowest lv).as as_lowest
def sg_sFracValid : Sig := { args := [.ag ζc5], pre := [], tin := ζc14, gin := [], res := .c ζc37, post := [], tout := [.bool], gout := [] }
def cl_sFracValid : List (Nat × Sig) := [(108, sg_l2In), (85, sg_l6In), (109, sg_l2Gcd)]
theorem run_sFracValid : (fun H : List (Nat × List Sc) => run ⟨Tryz.prog, glb ++ H, cl_sFracValid⟩ [] Tryz.f86 sg_sFracValid (Tryz.f86.body.getD .skip)) = fun _ => tr_sFracValid := by kernel_rfl
theorem om_sFracValid (lv : LibV) : ΩOK ⟨Tryz.prog, (glb ++ lib lv), cl_sFracValid⟩ (specsOf Fs_sFracValid) := (ΩOK_cons (cong_l2In lv) Tryz.call108 (ΩOK_cons (cong_l6In lv) Tryz.call85 (ΩOK_cons (con_l2Gcd lv) Tryz.call109 ΩOK_nil)))
theorem con_sFracValid (lv : LibV) : ConOK Tryz.prog (glb ++ lib lv) 86 sg_sFracValid F_sFracValid.spec := conOK_tree (om_sFracValid lv) mixed Tryz.func86 (by kernel_rfl) (congrFun run_sFracValid (lib lv))
theorem cong_sFracValid (lv : LibV) : ConOK Tryz.prog (glb ++ lib lv) 86 sg_sFracValid G_sFracValid.spec := (con_sFracValid lv).as as_sFracValid
def sg_l2Low : Sig := { args := ζc27, pre := [], tin := ζc14, gin := [], res := .tu ζc22, post := [], tout := ζc6, gout := [] }
def cl_l2Low : List (Nat × Sig) := [(109, sg_l2Gcd), (86, sg_sFracValid)]
theorem run_l2Low : (fun H : List (Nat × List Sc) => run ⟨Tryz.prog, glb ++ H, cl_l2Low⟩ [] Tryz.f110 sg_l2Low (Tryz.f110.body.getD .skip)) = fun _ => tr_l2Low := by kernel_rfl
theorem om_l2Low (lv : LibV) : ΩOK ⟨Tryz.prog, (glb ++ lib lv), cl_l2Low⟩ (specsOf Fs_l2Low) := (ΩOK_cons (con_l2Gcd lv) Tryz.call109 (ΩOK_cons (cong_sFracValid lv) Tryz.call86 ΩOK_nil))
theorem con_l2Low (lv : LibV) : ConOK Tryz.prog (glb ++ lib lv) 110 sg_l2Low F_l2Low.spec := conOK_tree (om_l2Low lv) mixed Tryz.func110 (by kernel_rfl) (congrFun run_l2Low (lib lv))
theorem cong_l2Low (lv : LibV) : ConOK Tryz.prog (glb ++ lib lv) 110 sg_l2Low G_l2Low.spec := (con_l2Low lv).as as_l2Low
def sg_sFracMake : Sig := { args := ζc27, pre := [], tin := ζc14, gin := [], res := .tu ζc22, post := [], tout := ζc6, gout := [] }
def cl_sFracMake : List (Nat × Sig) := [(85, sg_l6In), (110, sg_l2Low)]
theorem run_sFracMake : (fun H : List (Nat × List Sc) => run ⟨Tryz.prog, glb ++ H, cl_sFracMake⟩ [] Tryz.f87 sg_sFracMake (Tryz.f87.body.getD .skip)) = fun _ => tr_sFracMake := by kernel_rfl
theorem om_sFracMake (lv : LibV) : ΩOK ⟨Tryz.prog, (glb ++ lib lv), cl_sFracMake⟩ (specsOf Fs_sFracMake) := (ΩOK_cons (cong_l6In lv) Tryz.call85 (ΩOK_cons (cong_l2Low lv) Tryz.call110 ΩOK_nil))
theorem con_sFracMake (lv : LibV) : ConOK Tryz.prog (glb ++ lib lv) 87 sg_sFracMake F_sFracMake.spec := conOK_tree (om_sFracMake lv) mixed Tryz.func87 (by kernel_rfl) (congrFun run_sFracMake (lib lv))
theorem cong_sFracMake (lv : LibV) : ConOK Tryz.prog (glb ++ lib lv) 87 sg_sFracMake G_sFracMake.spec := (con_sFracMake lv).as as_sFracMake
def sg_direction : Sig := { args := ζc24, pre := [], tin := ζc38, gin := [], res := .tu [.ag ζc5, .ag ζc13, .s (.e (.var 6))], post := [], tout := ζc17, gout := [] }
def cl_direction : List (Nat × Sig) := [(82, sg_within), (74, sg_lowest)]
theorem run_direction : (fun H : List (Nat × List Sc) => run ⟨Tryz.prog, glb ++ H, cl_direction⟩ [] Tryz.f81 sg_direction (Tryz.f81.body.getD .skip)) = fun _ => tr_direction := by kernel_rfl
theorem om_direction (lv : LibV) : ΩOK ⟨Tryz.prog, (glb ++ lib lv), cl_direction⟩ (specsOf Fs_direction) := (ΩOK_cons (cong_within lv) Tryz.call82 (ΩOK_cons (cong_lowest lv) Tryz.call74 ΩOK_nil))
theorem con_direction (lv : LibV) : ConOK Tryz.prog (glb ++ lib lv) 81 sg_direction F_direction.spec := conOK_tree (om_direction lv) mixed Tryz.func81 (by kernel_rfl) (congrFun run_direction (lib lv))
theorem cong_direction (lv : LibV) : ConOK Tryz.prog (glb ++ lib lv) 81 sg_direction G_direction.spec := (con_direction lv).as as_direction
def sg_l5Direction : Sig := { args := ζc24, pre := [], tin := ζc38, gin := [], res := .tu [.ag ζc5, .ag ζc13, .s (.e (.var 6))], post := [], tout := ζc17, gout := [] }
def cl_l5Direction : List (Nat × Sig) := [(85, sg_l6In), (87, sg_sFracMake)]
theorem run_l5Direction : (fun H : List (Nat × List Sc) => run ⟨Tryz.prog, glb ++ H, cl_l5Direction⟩ [] Tryz.f84 sg_l5Direction (Tryz.f84.body.getD .skip)) = fun _ => tr_l5Direction := by kernel_rfl
theorem om_l5Direction (lv : LibV) : ΩOK ⟨Tryz.prog, (glb ++ lib lv), cl_l5Direction⟩ (specsOf Fs_l5Direction) := (ΩOK_cons (cong_l6In lv) Tryz.call85 (ΩOK_cons (cong_sFracMake lv) Tryz.call87 ΩOK_nil))
theorem con_l5Direction (lv : LibV) : ConOK Tryz.prog (glb ++ lib lv) 84 sg_l5Direction F_l5Direction.spec := conOK_tree (om_l5Direction lv) mixed Tryz.func84 (by kernel_rfl) (congrFun run_l5Direction (lib lv))
theorem cong_l5Direction (lv : LibV) : ConOK Tryz.prog (glb ++ lib lv) 84 sg_l5Direction G_l5Direction.spec := (con_l5Direction lv).as as_l5Direction
def sg_iFracValid : Sig := { args := [.ag ζc5], pre := [], tin := ζc14, gin := [], res := .c ζc37, post := [], tout := [.bool], gout := [] }
def cl_iFracValid : List (Nat × Sig) := [(82, sg_within), (99, sg_divisor), (100, sg_size)]
theorem run_iFracValid : (fun H : List (Nat × List Sc) => run ⟨Tryz.prog, glb ++ H, cl_iFracValid⟩ [] Tryz.f66 sg_iFracValid (Tryz.f66.body.getD .skip)) = fun _ => tr_iFracValid := by kernel_rfl
theorem om_iFracValid (lv : LibV) : ΩOK ⟨Tryz.prog, (glb ++ lib lv), cl_iFracValid⟩ (specsOf Fs_iFracValid) := (ΩOK_cons (cong_within lv) Tryz.call82 (ΩOK_cons (con_divisor lv) Tryz.call99 (ΩOK_cons (con_size lv) Tryz.call100 ΩOK_nil)))
theorem con_iFracValid (lv : LibV) : ConOK Tryz.prog (glb ++ lib lv) 66 sg_iFracValid F_iFracValid.spec := conOK_tree (om_iFracValid lv) mixed Tryz.func66 (by kernel_rfl) (congrFun run_iFracValid (lib lv))
theorem cong_iFracValid (lv : LibV) : ConOK Tryz.prog (glb ++ lib lv) 66 sg_iFracValid G_iFracValid.spec := (con_iFracValid lv).as as_iFracValid
def sg_realOk : Sig := { args := [.ag ζc5], pre := [], tin := ζc14, gin := [], res := .c ζc37, post := [], tout := [.bool], gout := [] }
def cl_realOk : List (Nat × Sig) := [(66, sg_iFracValid)]
theorem run_realOk : (fun H : List (Nat × List Sc) => run ⟨Tryz.prog, glb ++ H, cl_realOk⟩ [] Tryz.f76 sg_realOk (Tryz.f76.body.getD .skip)) = fun _ => tr_realOk := by kernel_rfl
theorem om_realOk (lv : LibV) : ΩOK ⟨Tryz.prog, (glb ++ lib lv), cl_realOk⟩ (specsOf Fs_realOk) := (ΩOK_cons (cong_iFracValid lv) Tryz.call66 ΩOK_nil)
theorem con_realOk (lv : LibV) : ConOK Tryz.prog (glb ++ lib lv) 76 sg_realOk F_realOk.spec := conOK_tree (om_realOk lv) mixed Tryz.func76 (by kernel_rfl) (congrFun run_realOk (lib lv))
theorem cong_realOk (lv : LibV) : ConOK Tryz.prog (glb ++ lib lv) 76 sg_realOk G_realOk.spec := (con_realOk lv).as as_realOk
def sg_iFracAdd : Sig := { args := ζc39, pre := [], tin := ζc16, gin := [], res := .tu ζc22, post := [], tout := ζc6, gout := [] }
def cl_iFracAdd : List (Nat × Sig) := [(66, sg_iFracValid), (74, sg_lowest)]
theorem run_iFracAdd : (fun H : List (Nat × List Sc) => run ⟨Tryz.prog, glb ++ H, cl_iFracAdd⟩ [] Tryz.f72 sg_iFracAdd (Tryz.f72.body.getD .skip)) = fun _ => tr_iFracAdd := by kernel_rfl
theorem om_iFracAdd (lv : LibV) : ΩOK ⟨Tryz.prog, (glb ++ lib lv), cl_iFracAdd⟩ (specsOf Fs_iFracAdd) := (ΩOK_cons (cong_iFracValid lv) Tryz.call66 (ΩOK_cons (cong_lowest lv) Tryz.call74 ΩOK_nil))
theorem con_iFracAdd (lv : LibV) : ConOK Tryz.prog (glb ++ lib lv) 72 sg_iFracAdd F_iFracAdd.spec := conOK_tree (om_iFracAdd lv) mixed Tryz.func72 (by kernel_rfl) (congrFun run_iFracAdd (lib lv))
theorem cong_iFracAdd (lv : LibV) : ConOK Tryz.prog (glb ++ lib lv) 72 sg_iFracAdd G_iFracAdd.spec := (con_iFracAdd lv).as as_iFracAdd
def sg_iFracTimes : Sig := { args := ζc39, pre := [], tin := ζc16, gin := [], res := .tu ζc22, post := [], tout := ζc6, gout := [] }
def cl_iFracTimes : List (Nat × Sig) := [(66, sg_iFracValid), (74, sg_lowest)]
theorem run_iFracTimes : (fun H : List (Nat × List Sc) => run ⟨Tryz.prog, glb ++ H, cl_iFracTimes⟩ [] Tryz.f69 sg_iFracTimes (Tryz.f69.body.getD .skip)) = fun _ => tr_iFracTimes := by kernel_rfl
theorem om_iFracTimes (lv : LibV) : ΩOK ⟨Tryz.prog, (glb ++ lib lv), cl_iFracTimes⟩ (specsOf Fs_iFracTimes) := (ΩOK_cons (cong_iFracValid lv) Tryz.call66 (ΩOK_cons (cong_lowest lv) Tryz.call74 ΩOK_nil))
theorem con_iFracTimes (lv : LibV) : ConOK Tryz.prog (glb ++ lib lv) 69 sg_iFracTimes F_iFracTimes.spec := conOK_tree (om_iFracTimes lv) mixed Tryz.func69 (by kernel_rfl) (congrFun run_iFracTimes (lib lv))
theorem cong_iFracTimes (lv : LibV) : ConOK Tryz.prog (glb ++ lib lv) 69 sg_iFracTimes G_iFracTimes.spec := (con_iFracTimes lv).as as_iFracTimes
def sg_l2Sum : Sig := { args := [.ag ζc5, .s (.e (.var 3)), .ag [.e (.var 4), .e (.var 5), .e (.var 6)]], pre := [], tin := [.int .i64, .int .i64, .int .i64, .int .i64, .int .i64, .int .i64, .int .i64], gin := [], res := .tu ζc22, post := [], tout := ζc6, gout := [] }
def cl_l2Sum : List (Nat × Sig) := [(86, sg_sFracValid), (110, sg_l2Low)]
theorem run_l2Sum : (fun H : List (Nat × List Sc) => run ⟨Tryz.prog, glb ++ H, cl_l2Sum⟩ [] Tryz.f117 sg_l2Sum (Tryz.f117.body.getD .skip)) = fun _ => tr_l2Sum := by kernel_rfl
theorem om_l2Sum (lv : LibV) : ΩOK ⟨Tryz.prog, (glb ++ lib lv), cl_l2Sum⟩ (specsOf Fs_l2Sum) := (ΩOK_cons (cong_sFracValid lv) Tryz.call86 (ΩOK_cons (cong_l2Low lv) Tryz.call110 ΩOK_nil))
theorem con_l2Sum (lv : LibV) : ConOK Tryz.prog (glb ++ lib lv) 117 sg_l2Sum F_l2Sum.spec := conOK_tree (om_l2Sum lv) mixed Tryz.func117 (by kernel_rfl) (congrFun run_l2Sum (lib lv))
theorem cong_l2Sum (lv : LibV) : ConOK Tryz.prog (glb ++ lib lv) 117 sg_l2Sum G_l2Sum.spec := (con_l2Sum lv).as as_l2Sum
def sg_sFracAdd : Sig := { args := ζc39, pre := [], tin := ζc16, gin := [], res := .tu ζc22, post := [], tout := ζc6, gout := [] }
def cl_sFracAdd : List (Nat × Sig) := [(117, sg_l2Sum)]
theorem run_sFracAdd : (fun H : List (Nat × List Sc) => run ⟨Tryz.prog, glb ++ H, cl_sFracAdd⟩ [] Tryz.f138 sg_sFracAdd (Tryz.f138.body.getD .skip)) = fun _ => tr_sFracAdd := by kernel_rfl
theorem om_sFracAdd (lv : LibV) : ΩOK ⟨Tryz.prog, (glb ++ lib lv), cl_sFracAdd⟩ (specsOf Fs_sFracAdd) := (ΩOK_cons (cong_l2Sum lv) Tryz.call117 ΩOK_nil)
theorem con_sFracAdd (lv : LibV) : ConOK Tryz.prog (glb ++ lib lv) 138 sg_sFracAdd F_sFracAdd.spec := conOK_tree (om_sFracAdd lv) mixed Tryz.func138 (by kernel_rfl) (congrFun run_sFracAdd (lib lv))
theorem cong_sFracAdd (lv : LibV) : ConOK Tryz.prog (glb ++ lib lv) 138 sg_sFracAdd G_sFracAdd.spec := (con_sFracAdd lv).as as_sFracAdd
def sg_sFracTimes : Sig := { args := ζc39, pre := [], tin := ζc16, gin := [], res := .tu ζc22, post := [], tout := ζc6, gout := [] }
def cl_sFracTimes : List (Nat × Sig) := [(86, sg_sFracValid), (110, sg_l2Low)]
theorem run_sFracTimes : (fun H : List (Nat × List Sc) => run ⟨Tryz.prog, glb ++ H, cl_sFracTimes⟩ [] Tryz.f95 sg_sFracTimes (Tryz.f95.body.getD .skip)) = fun _ => tr_sFracTimes := by kernel_rfl
theorem om_sFracTimes (lv : LibV) : ΩOK ⟨Tryz.prog, (glb ++ lib lv), cl_sFracTimes⟩ (specsOf Fs_sFracTimes) := (ΩOK_cons (cong_sFracValid lv) Tryz.call86 (ΩOK_cons (cong_l2Low lv) Tryz.call110 ΩOK_nil))
theorem con_sFracTimes (lv : LibV) : ConOK Tryz.prog (glb ++ lib lv) 95 sg_sFracTimes F_sFracTimes.spec := conOK_tree (om_sFracTimes lv) mixed Tryz.func95 (by kernel_rfl) (congrFun run_sFracTimes (lib lv))
theorem cong_sFracTimes (lv : LibV) : ConOK Tryz.prog (glb ++ lib lv) 95 sg_sFracTimes G_sFracTimes.spec := (con_sFracTimes lv).as as_sFracTimes
def sg_keep : Sig := { args := [.s ζc18, .ag ζc5, .s (.e (.var 3))], pre := [⟨[.e (.var 4)], 66⟩], tin := [.int .i64, .int .i64, .int .i64, .bool, .bool], gin := [], res := .c ζc33, post := [⟨ζc25, 66⟩], tout := ζc6, gout := [] }
def cl_keep : List (Nat × Sig) := []
theorem run_keep : (fun H : List (Nat × List Sc) => run ⟨Tryz.prog, glb ++ H, cl_keep⟩ [] Tryz.f67 sg_keep (Tryz.f67.body.getD .skip)) = fun _ => tr_keep := by kernel_rfl
theorem om_keep (lv : LibV) : ΩOK ⟨Tryz.prog, (glb ++ lib lv), cl_keep⟩ (specsOf Fs_keep) := ΩOK_nil
theorem con_keep (lv : LibV) : ConOK Tryz.prog (glb ++ lib lv) 67 sg_keep F_keep.spec := conOK_tree (om_keep lv) mixed Tryz.func67 (by kernel_rfl) (congrFun run_keep (lib lv))
def sg_add : Sig := { args := [.s ζc18, .ag ζc5, .ag ζc13], pre := [⟨[.e (.var 6)], 66⟩], tin := ζc17, gin := [], res := .c ζc33, post := [⟨ζc25, 66⟩], tout := ζc6, gout := [] }
def cl_add : List (Nat × Sig) := [(72, sg_iFracAdd), (67, sg_keep)]
theorem run_add : (fun H : List (Nat × List Sc) => run ⟨Tryz.prog, glb ++ H, cl_add⟩ [] Tryz.f34 sg_add (Tryz.f34.body.getD .skip)) = fun _ => tr_add := by kernel_rfl
theorem om_add (lv : LibV) : ΩOK ⟨Tryz.prog, (glb ++ lib lv), cl_add⟩ (specsOf Fs_add) := (ΩOK_cons (cong_iFracAdd lv) Tryz.call72 (ΩOK_cons (con_keep lv) Tryz.call67 ΩOK_nil))
theorem con_add (lv : LibV) : ConOK Tryz.prog (glb ++ lib lv) 34 sg_add F_add.spec := conOK_tree (om_add lv) mixed Tryz.func34 (by kernel_rfl) (congrFun run_add (lib lv))
theorem cong_add (lv : LibV) : ConOK Tryz.prog (glb ++ lib lv) 34 sg_add G_add.spec := (con_add lv).as as_add
def sg_times : Sig := { args := [.s ζc18, .ag ζc5, .ag ζc13], pre := [⟨[.e (.var 6)], 66⟩], tin := ζc17, gin := [], res := .c ζc33, post := [⟨ζc25, 66⟩], tout := ζc6, gout := [] }
def cl_times : List (Nat × Sig) := [(69, sg_iFracTimes), (67, sg_keep)]
theorem run_times : (fun H : List (Nat × List Sc) => run ⟨Tryz.prog, glb ++ H, cl_times⟩ [] Tryz.f29 sg_times (Tryz.f29.body.getD .skip)) = fun _ => tr_times := by kernel_rfl
theorem om_times (lv : LibV) : ΩOK ⟨Tryz.prog, (glb ++ lib lv), cl_times⟩ (specsOf Fs_times) := (ΩOK_cons (cong_iFracTimes lv) Tryz.call69 (ΩOK_cons (con_keep lv) Tryz.call67 ΩOK_nil))
theorem con_times (lv : LibV) : ConOK Tryz.prog (glb ++ lib lv) 29 sg_times F_times.spec := conOK_tree (om_times lv) mixed Tryz.func29 (by kernel_rfl) (congrFun run_times (lib lv))
theorem cong_times (lv : LibV) : ConOK Tryz.prog (glb ++ lib lv) 29 sg_times G_times.spec := (con_times lv).as as_times
def sg_need : Sig := { args := [.s ζc18, .s ζc15], pre := [⟨[.e (.var 1)], 66⟩], tin := [.bool, .bool], gin := [], res := .c (.s ζc18), post := [⟨[.e (.var 0)], 66⟩], tout := [.bool], gout := [] }
def cl_need : List (Nat × Sig) := []
theorem run_need : (fun H : List (Nat × List Sc) => run ⟨Tryz.prog, glb ++ H, cl_need⟩ [] Tryz.f25 sg_need (Tryz.f25.body.getD .skip)) = fun _ => tr_need := by kernel_rfl
theorem om_need (lv : LibV) : ΩOK ⟨Tryz.prog, (glb ++ lib lv), cl_need⟩ (specsOf Fs_need) := ΩOK_nil
theorem con_need (lv : LibV) : ConOK Tryz.prog (glb ++ lib lv) 25 sg_need F_need.spec := conOK_tree (om_need lv) mixed Tryz.func25 (by kernel_rfl) (congrFun run_need (lib lv))
theorem cong_need (lv : LibV) : ConOK Tryz.prog (glb ++ lib lv) 25 sg_need G_need.spec := (con_need lv).as as_need
def sg_l6tAdd : Sig := { args := [.s ζc18, .ag ζc5, .s (.e (.var 3)), .ag [.e (.var 4), .e (.var 5), .e (.var 6)]], pre := [⟨[.e (.var 7)], 98⟩], tin := [.int .i64, .int .i64, .int .i64, .int .i64, .int .i64, .int .i64, .int .i64, .bool], gin := [], res := .c ζc33, post := [⟨ζc25, 98⟩], tout := ζc6, gout := [] }
def cl_l6tAdd : List (Nat × Sig) := [(117, sg_l2Sum)]
theorem run_l6tAdd : (fun H : List (Nat × List Sc) => run ⟨Tryz.prog, glb ++ H, cl_l6tAdd⟩ [] Tryz.f96 sg_l6tAdd (Tryz.f96.body.getD .skip)) = fun _ => tr_l6tAdd := by kernel_rfl
theorem om_l6tAdd (lv : LibV) : ΩOK ⟨Tryz.prog, (glb ++ lib lv), cl_l6tAdd⟩ (specsOf Fs_l6tAdd) := (ΩOK_cons (cong_l2Sum lv) Tryz.call117 ΩOK_nil)
theorem con_l6tAdd (lv : LibV) : ConOK Tryz.prog (glb ++ lib lv) 96 sg_l6tAdd F_l6tAdd.spec := conOK_tree (om_l6tAdd lv) mixed Tryz.func96 (by kernel_rfl) (congrFun run_l6tAdd (lib lv))
theorem cong_l6tAdd (lv : LibV) : ConOK Tryz.prog (glb ++ lib lv) 96 sg_l6tAdd G_l6tAdd.spec := (con_l6tAdd lv).as as_l6tAdd
def sg_iTableValid : Sig := { args := [.ag ζc0], pre := [], tin := ζc2, gin := [], res := .c ζc37, post := [], tout := [.bool], gout := [] }
def cl_iTableValid : List (Nat × Sig) := [(76, sg_realOk)]
theorem run_iTableValid : (fun H : List (Nat × List Sc) => run ⟨Tryz.prog, glb ++ H, cl_iTableValid⟩ [] Tryz.f50 sg_iTableValid (Tryz.f50.body.getD .skip)) = fun _ => tr_iTableValid := by kernel_rfl
theorem om_iTableValid (lv : LibV) : ΩOK ⟨Tryz.prog, (glb ++ lib lv), cl_iTableValid⟩ (specsOf Fs_iTableValid) := (ΩOK_cons (cong_realOk lv) Tryz.call76 ΩOK_nil)
theorem con_iTableValid (lv : LibV) : ConOK Tryz.prog (glb ++ lib lv) 50 sg_iTableValid F_iTableValid.spec := conOK_tree (om_iTableValid lv) mixed Tryz.func50 (by kernel_rfl) (congrFun run_iTableValid (lib lv))
theorem cong_iTableValid (lv : LibV) : ConOK Tryz.prog (glb ++ lib lv) 50 sg_iTableValid G_iTableValid.spec := (con_iTableValid lv).as as_iTableValid
def sg_sTableValid : Sig := { args := [.ag ζc0], pre := [], tin := ζc2, gin := [], res := .c ζc37, post := [], tout := [.bool], gout := [] }
def cl_sTableValid : List (Nat × Sig) := [(86, sg_sFracValid)]
theorem run_sTableValid : (fun H : List (Nat × List Sc) => run ⟨Tryz.prog, glb ++ H, cl_sTableValid⟩ [] Tryz.f58 sg_sTableValid (Tryz.f58.body.getD .skip)) = fun _ => tr_sTableValid := by kernel_rfl
theorem om_sTableValid (lv : LibV) : ΩOK ⟨Tryz.prog, (glb ++ lib lv), cl_sTableValid⟩ (specsOf Fs_sTableValid) := (ΩOK_cons (cong_sFracValid lv) Tryz.call86 ΩOK_nil)
theorem con_sTableValid (lv : LibV) : ConOK Tryz.prog (glb ++ lib lv) 58 sg_sTableValid F_sTableValid.spec := conOK_tree (om_sTableValid lv) mixed Tryz.func58 (by kernel_rfl) (congrFun run_sTableValid (lib lv))
theorem cong_sTableValid (lv : LibV) : ConOK Tryz.prog (glb ++ lib lv) 58 sg_sTableValid G_sTableValid.spec := (con_sTableValid lv).as as_sTableValid
def sg_gotTable : Sig := { args := [.s ζc18, .ag ζc0], pre := [⟨[.e (.var 48)], 66⟩], tin := ζc3, gin := [], res := .tu ζc28, post := [⟨[.e (.var 49)], 66⟩], tout := [.int .i64, .int .i64, .int .i64, .int .i64, .int .i64, .int .i64, .int .i64, .int .i64, .int .i64, .int .i64, .int .i64, .int .i64, .int .i64, .int .i64, .int .i64, .int .i64, .int .i64, .int .i64, .int .i64, .int .i64, .int .i64, .int .i64, .int .i64, .int .i64, .int .i64, .int .i64, .int .i64, .int .i64, .int .i64, .int .i64, .int .i64, .int .i64, .int .i64, .int .i64, .int .i64, .int .i64, .int .i64, .int .i64, .int .i64, .int .i64, .int .i64, .int .i64, .int .i64, .int .i64, .int .i64, .int .i64, .int .i64, .int .i64, .bool, .bool], gout := [] }
def cl_gotTable : List (Nat × Sig) := []
theorem run_gotTable : (fun H : List (Nat × List Sc) => run ⟨Tryz.prog, glb ++ H, cl_gotTable⟩ [] Tryz.f38 sg_gotTable (Tryz.f38.body.getD .skip)) = fun _ => tr_gotTable := by kernel_rfl
theorem om_gotTable (lv : LibV) : ΩOK ⟨Tryz.prog, (glb ++ lib lv), cl_gotTable⟩ (specsOf Fs_gotTable) := ΩOK_nil
theorem con_gotTable (lv : LibV) : ConOK Tryz.prog (glb ++ lib lv) 38 sg_gotTable F_gotTable.spec := conOK_tree (om_gotTable lv) mixed Tryz.func38 (by kernel_rfl) (congrFun run_gotTable (lib lv))
theorem cong_gotTable (lv : LibV) : ConOK Tryz.prog (glb ++ lib lv) 38 sg_gotTable G_gotTable.spec := (con_gotTable lv).as as_gotTable
def sg_l6tOf0 : Sig := { args := [.ag ζc0, .s ζc29], pre := [], tin := ζc2, gin := [], res := .c (.ag ζc1), post := [], tout := ζc7, gout := [] }
def cl_l6tOf0 : List (Nat × Sig) := []
theorem run_l6tOf0 : (fun H : List (Nat × List Sc) => run ⟨Tryz.prog, glb ++ H, cl_l6tOf0⟩ [] Tryz.f60 sg_l6tOf0 (Tryz.f60.body.getD .skip)) = fun _ => tr_l6tOf0 := by kernel_rfl
theorem om_l6tOf0 (lv : LibV) : ΩOK ⟨Tryz.prog, (glb ++ lib lv), cl_l6tOf0⟩ (specsOf Fs_l6tOf0) := ΩOK_nil
theorem con_l6tOf0 (lv : LibV) : ConOK Tryz.prog (glb ++ lib lv) 60 sg_l6tOf0 F_l6tOf0.spec := conOK_tree (om_l6tOf0 lv) mixed Tryz.func60 (by kernel_rfl) (congrFun run_l6tOf0 (lib lv))
def sg_l6tOf1 : Sig := { args := [.ag ζc0, .s ζc19], pre := [], tin := ζc2, gin := [], res := .c (.ag ζc1), post := [], tout := ζc7, gout := [] }
def cl_l6tOf1 : List (Nat × Sig) := []
theorem run_l6tOf1 : (fun H : List (Nat × List Sc) => run ⟨Tryz.prog, glb ++ H, cl_l6tOf1⟩ [] Tryz.f60 sg_l6tOf1 (Tryz.f60.body.getD .skip)) = fun _ => tr_l6tOf1 := by kernel_rfl
theorem om_l6tOf1 (lv : LibV) : ΩOK ⟨Tryz.prog, (glb ++ lib lv), cl_l6tOf1⟩ (specsOf Fs_l6tOf1) := ΩOK_nil
theorem con_l6tOf1 (lv : LibV) : ConOK Tryz.prog (glb ++ lib lv) 60 sg_l6tOf1 F_l6tOf1.spec := conOK_tree (om_l6tOf1 lv) mixed Tryz.func60 (by kernel_rfl) (congrFun run_l6tOf1 (lib lv))
def sg_l6tOf2 : Sig := { args := [.ag ζc0, .s ζc32], pre := [], tin := ζc2, gin := [], res := .c (.ag ζc1), post := [], tout := ζc7, gout := [] }
def cl_l6tOf2 : List (Nat × Sig) := []
theorem run_l6tOf2 : (fun H : List (Nat × List Sc) => run ⟨Tryz.prog, glb ++ H, cl_l6tOf2⟩ [] Tryz.f60 sg_l6tOf2 (Tryz.f60.body.getD .skip)) = fun _ => tr_l6tOf2 := by kernel_rfl
theorem om_l6tOf2 (lv : LibV) : ΩOK ⟨Tryz.prog, (glb ++ lib lv), cl_l6tOf2⟩ (specsOf Fs_l6tOf2) := ΩOK_nil
theorem con_l6tOf2 (lv : LibV) : ConOK Tryz.prog (glb ++ lib lv) 60 sg_l6tOf2 F_l6tOf2.spec := conOK_tree (om_l6tOf2 lv) mixed Tryz.func60 (by kernel_rfl) (congrFun run_l6tOf2 (lib lv))
def sg_l6tOf3 : Sig := { args := [.ag ζc0, .s ζc34], pre := [], tin := ζc2, gin := [], res := .c (.ag ζc1), post := [], tout := ζc7, gout := [] }
def cl_l6tOf3 : List (Nat × Sig) := []
theorem run_l6tOf3 : (fun H : List (Nat × List Sc) => run ⟨Tryz.prog, glb ++ H, cl_l6tOf3⟩ [] Tryz.f60 sg_l6tOf3 (Tryz.f60.body.getD .skip)) = fun _ => tr_l6tOf3 := by kernel_rfl
theorem om_l6tOf3 (lv : LibV) : ΩOK ⟨Tryz.prog, (glb ++ lib lv), cl_l6tOf3⟩ (specsOf Fs_l6tOf3) := ΩOK_nil
theorem con_l6tOf3 (lv : LibV) : ConOK Tryz.prog (glb ++ lib lv) 60 sg_l6tOf3 F_l6tOf3.spec := conOK_tree (om_l6tOf3 lv) mixed Tryz.func60 (by kernel_rfl) (congrFun run_l6tOf3 (lib lv))
def sg_l6tRow : Sig := { args := [.s ζc18, .ag ζc1, .ag ζc10], pre := [⟨[.e (.var 24)], 98⟩], tin := ζc8, gin := [], res := .c ζc33, post := [⟨ζc25, 98⟩], tout := ζc6, gout := [] }
def cl_l6tRow : List (Nat × Sig) := [(95, sg_sFracTimes), (96, sg_l6tAdd)]
theorem run_l6tRow : (fun H : List (Nat × List Sc) => run ⟨Tryz.prog, glb ++ H, cl_l6tRow⟩ [] Tryz.f59 sg_l6tRow (Tryz.f59.body.getD .skip)) = fun _ => tr_l6tRow := by kernel_rfl
theorem om_l6tRow (lv : LibV) : ΩOK ⟨Tryz.prog, (glb ++ lib lv), cl_l6tRow⟩ (specsOf Fs_l6tRow) := (ΩOK_cons (cong_sFracTimes lv) Tryz.call95 (ΩOK_cons (cong_l6tAdd lv) Tryz.call96 ΩOK_nil))
theorem con_l6tRow (lv : LibV) : ConOK Tryz.prog (glb ++ lib lv) 59 sg_l6tRow F_l6tRow.spec := conOK_tree (om_l6tRow lv) mixed Tryz.func59 (by kernel_rfl) (congrFun run_l6tRow (lib lv))
theorem cong_l6tRow (lv : LibV) : ConOK Tryz.prog (glb ++ lib lv) 59 sg_l6tRow G_l6tRow.spec := (con_l6tRow lv).as as_l6tRow
def sg_iTableTimes : Sig := { args := ζc12, pre := [], tin := ζc9, gin := [], res := .tu ζc28, post := [], tout := ζc3, gout := [] }
def cl_iTableTimes : List (Nat × Sig) := [(50, sg_iTableValid), (25, sg_need), (29, sg_times), (34, sg_add), (38, sg_gotTable)]
theorem run_iTableTimes : (fun H : List (Nat × List Sc) => run ⟨Tryz.prog, glb ++ H, cl_iTableTimes⟩ [] Tryz.f18 sg_iTableTimes (Tryz.f18.body.getD .skip)) = fun _ => tr_iTableTimes := by kernel_rfl
theorem om_iTableTimes (lv : LibV) : ΩOK ⟨Tryz.prog, (glb ++ lib lv), cl_iTableTimes⟩ (specsOf Fs_iTableTimes) := (ΩOK_cons (cong_iTableValid lv) Tryz.call50 (ΩOK_cons (cong_need lv) Tryz.call25 (ΩOK_cons (cong_times lv) Tryz.call29 (ΩOK_cons (cong_add lv) Tryz.call34 (ΩOK_cons (cong_gotTable lv) Tryz.call38 ΩOK_nil)))))
theorem con_iTableTimes (lv : LibV) : ConOK Tryz.prog (glb ++ lib lv) 18 sg_iTableTimes F_iTableTimes.spec := conOK_tree (om_iTableTimes lv) mixed Tryz.func18 (by kernel_rfl) (congrFun run_iTableTimes (lib lv))
theorem cong_iTableTimes (lv : LibV) : ConOK Tryz.prog (glb ++ lib lv) 18 sg_iTableTimes G_iTableTimes.spec := (con_iTableTimes lv).as as_iTableTimes
def sg_sTableTimes : Sig := { args := ζc12, pre := [], tin := ζc9, gin := [], res := .tu ζc28, post := [], tout := ζc3, gout := [] }
def cl_sTableTimes : List (Nat × Sig) := [(58, sg_sTableValid), (60, sg_l6tOf0), (60, sg_l6tOf1), (60, sg_l6tOf2), (60, sg_l6tOf3), (59, sg_l6tRow)]
theorem run_sTableTimes : (fun H : List (Nat × List Sc) => run ⟨Tryz.prog, glb ++ H, cl_sTableTimes⟩ [] Tryz.f22 sg_sTableTimes (Tryz.f22.body.getD .skip)) = fun _ => tr_sTableTimes := by kernel_rfl
theorem om_sTableTimes (lv : LibV) : ΩOK ⟨Tryz.prog, (glb ++ lib lv), cl_sTableTimes⟩ (specsOf Fs_sTableTimes) := (ΩOK_cons (cong_sTableValid lv) Tryz.call58 (ΩOK_cons (con_l6tOf0 lv) Tryz.call60 (ΩOK_cons (con_l6tOf1 lv) Tryz.call60 (ΩOK_cons (con_l6tOf2 lv) Tryz.call60 (ΩOK_cons (con_l6tOf3 lv) Tryz.call60 (ΩOK_cons (cong_l6tRow lv) Tryz.call59 ΩOK_nil))))))
theorem con_sTableTimes (lv : LibV) : ConOK Tryz.prog (glb ++ lib lv) 22 sg_sTableTimes F_sTableTimes.spec := conOK_tree (om_sTableTimes lv) mixed Tryz.func22 (by kernel_rfl) (congrFun run_sTableTimes (lib lv))
theorem cong_sTableTimes (lv : LibV) : ConOK Tryz.prog (glb ++ lib lv) 22 sg_sTableTimes G_sTableTimes.spec := (con_sTableTimes lv).as as_sTableTimes
def sg_gotStokes : Sig := { args := [.s ζc18, .ag ζc1], pre := [⟨ζc35, 66⟩], tin := ζc4, gin := [], res := .tu ζc23, post := [⟨[.e (.var 13)], 66⟩], tout := ζc36, gout := [] }
def cl_gotStokes : List (Nat × Sig) := []
theorem run_gotStokes : (fun H : List (Nat × List Sc) => run ⟨Tryz.prog, glb ++ H, cl_gotStokes⟩ [] Tryz.f102 sg_gotStokes (Tryz.f102.body.getD .skip)) = fun _ => tr_gotStokes := by kernel_rfl
theorem om_gotStokes (lv : LibV) : ΩOK ⟨Tryz.prog, (glb ++ lib lv), cl_gotStokes⟩ (specsOf Fs_gotStokes) := ΩOK_nil
theorem con_gotStokes (lv : LibV) : ConOK Tryz.prog (glb ++ lib lv) 102 sg_gotStokes F_gotStokes.spec := conOK_tree (om_gotStokes lv) mixed Tryz.func102 (by kernel_rfl) (congrFun run_gotStokes (lib lv))
theorem cong_gotStokes (lv : LibV) : ConOK Tryz.prog (glb ++ lib lv) 102 sg_gotStokes G_gotStokes.spec := (con_gotStokes lv).as as_gotStokes
def sg_iStokesValid : Sig := { args := [.ag ζc1], pre := [], tin := ζc7, gin := [], res := .c ζc37, post := [], tout := [.bool], gout := [] }
def cl_iStokesValid : List (Nat × Sig) := [(76, sg_realOk)]
theorem run_iStokesValid : (fun H : List (Nat × List Sc) => run ⟨Tryz.prog, glb ++ H, cl_iStokesValid⟩ [] Tryz.f101 sg_iStokesValid (Tryz.f101.body.getD .skip)) = fun _ => tr_iStokesValid := by kernel_rfl
theorem om_iStokesValid (lv : LibV) : ΩOK ⟨Tryz.prog, (glb ++ lib lv), cl_iStokesValid⟩ (specsOf Fs_iStokesValid) := (ΩOK_cons (cong_realOk lv) Tryz.call76 ΩOK_nil)
theorem con_iStokesValid (lv : LibV) : ConOK Tryz.prog (glb ++ lib lv) 101 sg_iStokesValid F_iStokesValid.spec := conOK_tree (om_iStokesValid lv) mixed Tryz.func101 (by kernel_rfl) (congrFun run_iStokesValid (lib lv))
theorem cong_iStokesValid (lv : LibV) : ConOK Tryz.prog (glb ++ lib lv) 101 sg_iStokesValid G_iStokesValid.spec := (con_iStokesValid lv).as as_iStokesValid
def sg_iTableApply : Sig := { args := [.ag ζc0, .ag [.e (.var 48), .e (.var 49), .e (.var 50), .e (.var 51), .e (.var 52), .e (.var 53), .e (.var 54), .e (.var 55), .e (.var 56), .e (.var 57), .e (.var 58), .e (.var 59)]], pre := [], tin := [.int .i64, .int .i64, .int .i64, .int .i64, .int .i64, .int .i64, .int .i64, .int .i64, .int .i64, .int .i64, .int .i64, .int .i64, .int .i64, .int .i64, .int .i64, .int .i64, .int .i64, .int .i64, .int .i64, .int .i64, .int .i64, .int .i64, .int .i64, .int .i64, .int .i64, .int .i64, .int .i64, .int .i64, .int .i64, .int .i64, .int .i64, .int .i64, .int .i64, .int .i64, .int .i64, .int .i64, .int .i64, .int .i64, .int .i64, .int .i64, .int .i64, .int .i64, .int .i64, .int .i64, .int .i64, .int .i64, .int .i64, .int .i64, .int .i64, .int .i64, .int .i64, .int .i64, .int .i64, .int .i64, .int .i64, .int .i64, .int .i64, .int .i64, .int .i64, .int .i64], gin := [], res := .tu ζc23, post := [], tout := ζc4, gout := [] }
def cl_iTableApply : List (Nat × Sig) := [(50, sg_iTableValid), (101, sg_iStokesValid), (25, sg_need), (29, sg_times), (34, sg_add), (102, sg_gotStokes)]
theorem run_iTableApply : (fun H : List (Nat × List Sc) => run ⟨Tryz.prog, glb ++ H, cl_iTableApply⟩ [] Tryz.f75 sg_iTableApply (Tryz.f75.body.getD .skip)) = fun _ => tr_iTableApply := by kernel_rfl
theorem om_iTableApply (lv : LibV) : ΩOK ⟨Tryz.prog, (glb ++ lib lv), cl_iTableApply⟩ (specsOf Fs_iTableApply) := (ΩOK_cons (cong_iTableValid lv) Tryz.call50 (ΩOK_cons (cong_iStokesValid lv) Tryz.call101 (ΩOK_cons (cong_need lv) Tryz.call25 (ΩOK_cons (cong_times lv) Tryz.call29 (ΩOK_cons (cong_add lv) Tryz.call34 (ΩOK_cons (cong_gotStokes lv) Tryz.call102 ΩOK_nil))))))
theorem con_iTableApply (lv : LibV) : ConOK Tryz.prog (glb ++ lib lv) 75 sg_iTableApply F_iTableApply.spec := conOK_tree (om_iTableApply lv) mixed Tryz.func75 (by kernel_rfl) (congrFun run_iTableApply (lib lv))
theorem cong_iTableApply (lv : LibV) : ConOK Tryz.prog (glb ++ lib lv) 75 sg_iTableApply G_iTableApply.spec := (con_iTableApply lv).as as_iTableApply
def sg_l3Inner : Sig := { args := [.ag ζc5, .ag ζc13, .ag [.e (.var 6), .e (.var 7), .e (.var 8)], .ag [.e (.var 9), .e (.var 10), .e (.var 11)]], pre := [], tin := ζc7, gin := [], res := .tu ζc22, post := [], tout := ζc6, gout := [] }
def cl_l3Inner : List (Nat × Sig) := [(95, sg_sFracTimes), (138, sg_sFracAdd)]
theorem run_l3Inner : (fun H : List (Nat × List Sc) => run ⟨Tryz.prog, glb ++ H, cl_l3Inner⟩ [] Tryz.f126 sg_l3Inner (Tryz.f126.body.getD .skip)) = fun _ => tr_l3Inner := by kernel_rfl
theorem om_l3Inner (lv : LibV) : ΩOK ⟨Tryz.prog, (glb ++ lib lv), cl_l3Inner⟩ (specsOf Fs_l3Inner) := (ΩOK_cons (cong_sFracTimes lv) Tryz.call95 (ΩOK_cons (cong_sFracAdd lv) Tryz.call138 ΩOK_nil))
theorem con_l3Inner (lv : LibV) : ConOK Tryz.prog (glb ++ lib lv) 126 sg_l3Inner F_l3Inner.spec := conOK_tree (om_l3Inner lv) mixed Tryz.func126 (by kernel_rfl) (congrFun run_l3Inner (lib lv))
theorem cong_l3Inner (lv : LibV) : ConOK Tryz.prog (glb ++ lib lv) 126 sg_l3Inner G_l3Inner.spec := (con_l3Inner lv).as as_l3Inner
def sg_iMatValid : Sig := { args := [.ag ζc1], pre := [], tin := ζc7, gin := [], res := .c ζc37, post := [], tout := [.bool], gout := [] }
def cl_iMatValid : List (Nat × Sig) := [(66, sg_iFracValid)]
theorem run_iMatValid : (fun H : List (Nat × List Sc) => run ⟨Tryz.prog, glb ++ H, cl_iMatValid⟩ [] Tryz.f26 sg_iMatValid (Tryz.f26.body.getD .skip)) = fun _ => tr_iMatValid := by kernel_rfl
theorem om_iMatValid (lv : LibV) : ΩOK ⟨Tryz.prog, (glb ++ lib lv), cl_iMatValid⟩ (specsOf Fs_iMatValid) := (ΩOK_cons (cong_iFracValid lv) Tryz.call66 ΩOK_nil)
theorem con_iMatValid (lv : LibV) : ConOK Tryz.prog (glb ++ lib lv) 26 sg_iMatValid F_iMatValid.spec := conOK_tree (om_iMatValid lv) mixed Tryz.func26 (by kernel_rfl) (congrFun run_iMatValid (lib lv))
theorem cong_iMatValid (lv : LibV) : ConOK Tryz.prog (glb ++ lib lv) 26 sg_iMatValid G_iMatValid.spec := (con_iMatValid lv).as as_iMatValid
def sg_sMatValid : Sig := { args := [.ag ζc1], pre := [], tin := ζc7, gin := [], res := .c ζc37, post := [], tout := [.bool], gout := [] }
def cl_sMatValid : List (Nat × Sig) := [(86, sg_sFracValid)]
theorem run_sMatValid : (fun H : List (Nat × List Sc) => run ⟨Tryz.prog, glb ++ H, cl_sMatValid⟩ [] Tryz.f92 sg_sMatValid (Tryz.f92.body.getD .skip)) = fun _ => tr_sMatValid := by kernel_rfl
theorem om_sMatValid (lv : LibV) : ΩOK ⟨Tryz.prog, (glb ++ lib lv), cl_sMatValid⟩ (specsOf Fs_sMatValid) := (ΩOK_cons (cong_sFracValid lv) Tryz.call86 ΩOK_nil)
theorem con_sMatValid (lv : LibV) : ConOK Tryz.prog (glb ++ lib lv) 92 sg_sMatValid F_sMatValid.spec := conOK_tree (om_sMatValid lv) mixed Tryz.func92 (by kernel_rfl) (congrFun run_sMatValid (lib lv))
theorem cong_sMatValid (lv : LibV) : ConOK Tryz.prog (glb ++ lib lv) 92 sg_sMatValid G_sMatValid.spec := (con_sMatValid lv).as as_sMatValid
def sg_iFracLess : Sig := { args := ζc39, pre := [], tin := ζc16, gin := [], res := .tu ζc22, post := [], tout := ζc6, gout := [] }
def cl_iFracLess : List (Nat × Sig) := [(66, sg_iFracValid), (74, sg_lowest)]
theorem run_iFracLess : (fun H : List (Nat × List Sc) => run ⟨Tryz.prog, glb ++ H, cl_iFracLess⟩ [] Tryz.f73 sg_iFracLess (Tryz.f73.body.getD .skip)) = fun _ => tr_iFracLess := by kernel_rfl
theorem om_iFracLess (lv : LibV) : ΩOK ⟨Tryz.prog, (glb ++ lib lv), cl_iFracLess⟩ (specsOf Fs_iFracLess) := (ΩOK_cons (cong_iFracValid lv) Tryz.call66 (ΩOK_cons (cong_lowest lv) Tryz.call74 ΩOK_nil))
theorem con_iFracLess (lv : LibV) : ConOK Tryz.prog (glb ++ lib lv) 73 sg_iFracLess F_iFracLess.spec := conOK_tree (om_iFracLess lv) mixed Tryz.func73 (by kernel_rfl) (congrFun run_iFracLess (lib lv))
theorem cong_iFracLess (lv : LibV) : ConOK Tryz.prog (glb ++ lib lv) 73 sg_iFracLess G_iFracLess.spec := (con_iFracLess lv).as as_iFracLess
def sg_iFracMirror : Sig := { args := [.ag ζc5], pre := [], tin := ζc14, gin := [], res := .tu ζc22, post := [], tout := ζc6, gout := [] }
def cl_iFracMirror : List (Nat × Sig) := [(66, sg_iFracValid)]
theorem run_iFracMirror : (fun H : List (Nat × List Sc) => run ⟨Tryz.prog, glb ++ H, cl_iFracMirror⟩ [] Tryz.f70 sg_iFracMirror (Tryz.f70.body.getD .skip)) = fun _ => tr_iFracMirror := by kernel_rfl
theorem om_iFracMirror (lv : LibV) : ΩOK ⟨Tryz.prog, (glb ++ lib lv), cl_iFracMirror⟩ (specsOf Fs_iFracMirror) := (ΩOK_cons (cong_iFracValid lv) Tryz.call66 ΩOK_nil)
theorem con_iFracMirror (lv : LibV) : ConOK Tryz.prog (glb ++ lib lv) 70 sg_iFracMirror F_iFracMirror.spec := conOK_tree (om_iFracMirror lv) mixed Tryz.func70 (by kernel_rfl) (congrFun run_iFracMirror (lib lv))
theorem cong_iFracMirror (lv : LibV) : ConOK Tryz.prog (glb ++ lib lv) 70 sg_iFracMirror G_iFracMirror.spec := (con_iFracMirror lv).as as_iFracMirror
def sg_sFracMirror : Sig := { args := [.ag ζc5], pre := [], tin := ζc14, gin := [], res := .tu ζc22, post := [], tout := ζc6, gout := [] }
def cl_sFracMirror : List (Nat × Sig) := [(86, sg_sFracValid)]
theorem run_sFracMirror : (fun H : List (Nat × List Sc) => run ⟨Tryz.prog, glb ++ H, cl_sFracMirror⟩ [] Tryz.f125 sg_sFracMirror (Tryz.f125.body.getD .skip)) = fun _ => tr_sFracMirror := by kernel_rfl
theorem om_sFracMirror (lv : LibV) : ΩOK ⟨Tryz.prog, (glb ++ lib lv), cl_sFracMirror⟩ (specsOf Fs_sFracMirror) := (ΩOK_cons (cong_sFracValid lv) Tryz.call86 ΩOK_nil)
theorem con_sFracMirror (lv : LibV) : ConOK Tryz.prog (glb ++ lib lv) 125 sg_sFracMirror F_sFracMirror.spec := conOK_tree (om_sFracMirror lv) mixed Tryz.func125 (by kernel_rfl) (congrFun run_sFracMirror (lib lv))
theorem cong_sFracMirror (lv : LibV) : ConOK Tryz.prog (glb ++ lib lv) 125 sg_sFracMirror G_sFracMirror.spec := (con_sFracMirror lv).as as_sFracMirror
def sg_iFracPower : Sig := { args := [.ag ζc5], pre := [], tin := ζc14, gin := [], res := .tu ζc22, post := [], tout := ζc6, gout := [] }
def cl_iFracPower : List (Nat × Sig) := [(66, sg_iFracValid), (74, sg_lowest)]
theorem run_iFracPower : (fun H : List (Nat × List Sc) => run ⟨Tryz.prog, glb ++ H, cl_iFracPower⟩ [] Tryz.f68 sg_iFracPower (Tryz.f68.body.getD .skip)) = fun _ => tr_iFracPower := by kernel_rfl
theorem om_iFracPower (lv : LibV) : ΩOK ⟨Tryz.prog, (glb ++ lib lv), cl_iFracPower⟩ (specsOf Fs_iFracPower) := (ΩOK_cons (cong_iFracValid lv) Tryz.call66 (ΩOK_cons (cong_lowest lv) Tryz.call74 ΩOK_nil))
theorem con_iFracPower (lv : LibV) : ConOK Tryz.prog (glb ++ lib lv) 68 sg_iFracPower F_iFracPower.spec := conOK_tree (om_iFracPower lv) mixed Tryz.func68 (by kernel_rfl) (congrFun run_iFracPower (lib lv))
theorem cong_iFracPower (lv : LibV) : ConOK Tryz.prog (glb ++ lib lv) 68 sg_iFracPower G_iFracPower.spec := (con_iFracPower lv).as as_iFracPower
def sg_iHalf : Sig := { args := [.ag ζc5, .ag ζc40], pre := [], tin := ζc14, gin := [], res := .tu ζc22, post := [], tout := ζc6, gout := [] }
def cl_iHalf : List (Nat × Sig) := [(66, sg_iFracValid), (74, sg_lowest), (69, sg_iFracTimes)]
theorem run_iHalf : (fun H : List (Nat × List Sc) => run ⟨Tryz.prog, glb ++ H, cl_iHalf⟩ [] Tryz.f71 sg_iHalf (Tryz.f71.body.getD .skip)) = fun _ => tr_iHalf := by kernel_rfl
theorem om_iHalf (lv : LibV) : ΩOK ⟨Tryz.prog, (glb ++ lib lv), cl_iHalf⟩ (specsOf Fs_iHalf) := (ΩOK_cons (cong_iFracValid lv) Tryz.call66 (ΩOK_cons (cong_lowest lv) Tryz.call74 (ΩOK_cons (cong_iFracTimes lv) Tryz.call69 ΩOK_nil)))
theorem con_iHalf (lv : LibV) : ConOK Tryz.prog (glb ++ lib lv) 71 sg_iHalf F_iHalf.spec := conOK_tree (om_iHalf lv) mixed Tryz.func71 (by kernel_rfl) (congrFun run_iHalf (lib lv))
theorem cong_iHalf (lv : LibV) : ConOK Tryz.prog (glb ++ lib lv) 71 sg_iHalf G_iHalf.spec := (con_iHalf lv).as as_iHalf
def sg_whole2 : Sig := { args := [.s ζc32], pre := [], tin := [], gin := [], res := .c (.ag ζc40), post := [], tout := [], gout := [] }
def cl_whole2 : List (Nat × Sig) := []
theorem run_whole2 : (fun H : List (Nat × List Sc) => run ⟨Tryz.prog, glb ++ H, cl_whole2⟩ [] Tryz.f33 sg_whole2 (Tryz.f33.body.getD .skip)) = fun _ => tr_whole2 := by kernel_rfl
theorem om_whole2 (lv : LibV) : ΩOK ⟨Tryz.prog, (glb ++ lib lv), cl_whole2⟩ (specsOf Fs_whole2) := ΩOK_nil
theorem con_whole2 (lv : LibV) : ConOK Tryz.prog (glb ++ lib lv) 33 sg_whole2 F_whole2.spec := conOK_tree (om_whole2 lv) mixed Tryz.func33 (by kernel_rfl) (congrFun run_whole2 (lib lv))
def sg_less : Sig := { args := [.s ζc18, .ag ζc5, .ag ζc13], pre := [⟨[.e (.var 6)], 66⟩], tin := ζc17, gin := [], res := .c ζc33, post := [⟨ζc25, 66⟩], tout := ζc6, gout := [] }
def cl_less : List (Nat × Sig) := [(73, sg_iFracLess), (67, sg_keep)]
theorem run_less : (fun H : List (Nat × List Sc) => run ⟨Tryz.prog, glb ++ H, cl_less⟩ [] Tryz.f35 sg_less (Tryz.f35.body.getD .skip)) = fun _ => tr_less := by kernel_rfl
theorem om_less (lv : LibV) : ΩOK ⟨Tryz.prog, (glb ++ lib lv), cl_less⟩ (specsOf Fs_less) := (ΩOK_cons (cong_iFracLess lv) Tryz.call73 (ΩOK_cons (con_keep lv) Tryz.call67 ΩOK_nil))
theorem con_less (lv : LibV) : ConOK Tryz.prog (glb ++ lib lv) 35 sg_less F_less.spec := conOK_tree (om_less lv) mixed Tryz.func35 (by kernel_rfl) (congrFun run_less (lib lv))
theorem cong_less (lv : LibV) : ConOK Tryz.prog (glb ++ lib lv) 35 sg_less G_less.spec := (con_less lv).as as_less
def sg_mirror : Sig := { args := [.s ζc18, .ag ζc5], pre := [⟨ζc25, 66⟩], tin := ζc6, gin := [], res := .c ζc33, post := [⟨ζc25, 66⟩], tout := ζc6, gout := [] }
def cl_mirror : List (Nat × Sig) := [(70, sg_iFracMirror), (67, sg_keep)]
theorem run_mirror : (fun H : List (Nat × List Sc) => run ⟨Tryz.prog, glb ++ H, cl_mirror⟩ [] Tryz.f30 sg_mirror (Tryz.f30.body.getD .skip)) = fun _ => tr_mirror := by kernel_rfl
theorem om_mirror (lv : LibV) : ΩOK ⟨Tryz.prog, (glb ++ lib lv), cl_mirror⟩ (specsOf Fs_mirror) := (ΩOK_cons (cong_iFracMirror lv) Tryz.call70 (ΩOK_cons (con_keep lv) Tryz.call67 ΩOK_nil))
theorem con_mirror (lv : LibV) : ConOK Tryz.prog (glb ++ lib lv) 30 sg_mirror F_mirror.spec := conOK_tree (om_mirror lv) mixed Tryz.func30 (by kernel_rfl) (congrFun run_mirror (lib lv))
theorem cong_mirror (lv : LibV) : ConOK Tryz.prog (glb ++ lib lv) 30 sg_mirror G_mirror.spec := (con_mirror lv).as as_mirror
def sg_power : Sig := { args := [.s ζc18, .ag ζc5], pre := [⟨ζc25, 66⟩], tin := ζc6, gin := [], res := .c ζc33, post := [⟨ζc25, 66⟩], tout := ζc6, gout := [] }
def cl_power : List (Nat × Sig) := [(68, sg_iFracPower), (67, sg_keep)]
theorem run_power : (fun H : List (Nat × List Sc) => run ⟨Tryz.prog, glb ++ H, cl_power⟩ [] Tryz.f27 sg_power (Tryz.f27.body.getD .skip)) = fun _ => tr_power := by kernel_rfl
theorem om_power (lv : LibV) : ΩOK ⟨Tryz.prog, (glb ++ lib lv), cl_power⟩ (specsOf Fs_power) := (ΩOK_cons (cong_iFracPower lv) Tryz.call68 (ΩOK_cons (con_keep lv) Tryz.call67 ΩOK_nil))
theorem con_power (lv : LibV) : ConOK Tryz.prog (glb ++ lib lv) 27 sg_power F_power.spec := conOK_tree (om_power lv) mixed Tryz.func27 (by kernel_rfl) (congrFun run_power (lib lv))
theorem cong_power (lv : LibV) : ConOK Tryz.prog (glb ++ lib lv) 27 sg_power G_power.spec := (con_power lv).as as_power
def sg_overTwo : Sig := { args := [.s ζc18, .ag ζc5, .ag ζc40], pre := [⟨ζc25, 66⟩], tin := ζc6, gin := [], res := .c ζc33, post := [⟨ζc25, 66⟩], tout := ζc6, gout := [] }
def cl_overTwo : List (Nat × Sig) := [(71, sg_iHalf), (67, sg_keep)]
theorem run_overTwo : (fun H : List (Nat × List Sc) => run ⟨Tryz.prog, glb ++ H, cl_overTwo⟩ [] Tryz.f32 sg_overTwo (Tryz.f32.body.getD .skip)) = fun _ => tr_overTwo := by kernel_rfl
theorem om_overTwo (lv : LibV) : ΩOK ⟨Tryz.prog, (glb ++ lib lv), cl_overTwo⟩ (specsOf Fs_overTwo) := (ΩOK_cons (cong_iHalf lv) Tryz.call71 (ΩOK_cons (con_keep lv) Tryz.call67 ΩOK_nil))
theorem con_overTwo (lv : LibV) : ConOK Tryz.prog (glb ++ lib lv) 32 sg_overTwo F_overTwo.spec := conOK_tree (om_overTwo lv) mixed Tryz.func32 (by kernel_rfl) (congrFun run_overTwo (lib lv))
theorem cong_overTwo (lv : LibV) : ConOK Tryz.prog (glb ++ lib lv) 32 sg_overTwo G_overTwo.spec := (con_overTwo lv).as as_overTwo
def sg_real : Sig := { args := [.s ζc18, .ag ζc5], pre := [⟨ζc25, 66⟩], tin := ζc6, gin := [], res := .c ζc33, post := [⟨ζc25, 66⟩], tout := ζc6, gout := [] }
def cl_real : List (Nat × Sig) := [(66, sg_iFracValid), (74, sg_lowest), (67, sg_keep)]
theorem run_real : (fun H : List (Nat × List Sc) => run ⟨Tryz.prog, glb ++ H, cl_real⟩ [] Tryz.f36 sg_real (Tryz.f36.body.getD .skip)) = fun _ => tr_real := by kernel_rfl
theorem om_real (lv : LibV) : ΩOK ⟨Tryz.prog, (glb ++ lib lv), cl_real⟩ (specsOf Fs_real) := (ΩOK_cons (cong_iFracValid lv) Tryz.call66 (ΩOK_cons (cong_lowest lv) Tryz.call74 (ΩOK_cons (con_keep lv) Tryz.call67 ΩOK_nil)))
theorem con_real (lv : LibV) : ConOK Tryz.prog (glb ++ lib lv) 36 sg_real F_real.spec := conOK_tree (om_real lv) mixed Tryz.func36 (by kernel_rfl) (congrFun run_real (lib lv))
theorem cong_real (lv : LibV) : ConOK Tryz.prog (glb ++ lib lv) 36 sg_real G_real.spec := (con_real lv).as as_real
def sg_imag : Sig := { args := [.s ζc18, .ag ζc5], pre := [⟨ζc25, 66⟩], tin := ζc6, gin := [], res := .c ζc33, post := [⟨ζc25, 66⟩], tout := ζc6, gout := [] }
def cl_imag : List (Nat × Sig) := [(66, sg_iFracValid), (74, sg_lowest), (67, sg_keep)]
theorem run_imag : (fun H : List (Nat × List Sc) => run ⟨Tryz.prog, glb ++ H, cl_imag⟩ [] Tryz.f37 sg_imag (Tryz.f37.body.getD .skip)) = fun _ => tr_imag := by kernel_rfl
theorem om_imag (lv : LibV) : ΩOK ⟨Tryz.prog, (glb ++ lib lv), cl_imag⟩ (specsOf Fs_imag) := (ΩOK_cons (cong_iFracValid lv) Tryz.call66 (ΩOK_cons (cong_lowest lv) Tryz.call74 (ΩOK_cons (con_keep lv) Tryz.call67 ΩOK_nil)))
theorem con_imag (lv : LibV) : ConOK Tryz.prog (glb ++ lib lv) 37 sg_imag F_imag.spec := conOK_tree (om_imag lv) mixed Tryz.func37 (by kernel_rfl) (congrFun run_imag (lib lv))
theorem cong_imag (lv : LibV) : ConOK Tryz.prog (glb ++ lib lv) 37 sg_imag G_imag.spec := (con_imag lv).as as_imag
def sg_iPair : Sig := { args := [.ag ζc5, .ag ζc13, .s ζc18], pre := [⟨[.p (.own 1) 0], 64⟩, ⟨[.e (.var 6)], 66⟩], tin := ζc17, gin := [], res := .c ζc33, post := [⟨[.p (.own 1) 0], 64⟩, ⟨ζc25, 66⟩], tout := ζc6, gout := [] }
def cl_iPair : List (Nat × Sig) := [(30, sg_mirror), (29, sg_times)]
theorem run_iPair : (fun H : List (Nat × List Sc) => run ⟨Tryz.prog, glb ++ H, cl_iPair⟩ [] Tryz.f28 sg_iPair (Tryz.f28.body.getD .skip)) = fun _ => tr_iPair := by kernel_rfl
theorem om_iPair (lv : LibV) : ΩOK ⟨Tryz.prog, (glb ++ lib lv), cl_iPair⟩ (specsOf Fs_iPair) := (ΩOK_cons (cong_mirror lv) Tryz.call30 (ΩOK_cons (cong_times lv) Tryz.call29 ΩOK_nil))
theorem con_iPair (lv : LibV) : ConOK Tryz.prog (glb ++ lib lv) 28 sg_iPair F_iPair.spec := conOK_tree (om_iPair lv) mixed Tryz.func28 (by kernel_rfl) (congrFun run_iPair (lib lv))
theorem cong_iPair (lv : LibV) : ConOK Tryz.prog (glb ++ lib lv) 28 sg_iPair G_iPair.spec := (con_iPair lv).as as_iPair
def sg_iHalfS : Sig := { args := [.ag ζc5, .s ζc18], pre := [⟨[.p (.own 1) 0], 64⟩, ⟨ζc25, 66⟩], tin := ζc6, gin := [], res := .c ζc33, post := [⟨[.p (.own 1) 0], 64⟩, ⟨ζc25, 66⟩], tout := ζc6, gout := [] }
def cl_iHalfS : List (Nat × Sig) := [(33, sg_whole2), (32, sg_overTwo)]
theorem run_iHalfS : (fun H : List (Nat × List Sc) => run ⟨Tryz.prog, glb ++ H, cl_iHalfS⟩ [] Tryz.f31 sg_iHalfS (Tryz.f31.body.getD .skip)) = fun _ => tr_iHalfS := by kernel_rfl
theorem om_iHalfS (lv : LibV) : ΩOK ⟨Tryz.prog, (glb ++ lib lv), cl_iHalfS⟩ (specsOf Fs_iHalfS) := (ΩOK_cons (con_whole2 lv) Tryz.call33 (ΩOK_cons (cong_overTwo lv) Tryz.call32 ΩOK_nil))
theorem con_iHalfS (lv : LibV) : ConOK Tryz.prog (glb ++ lib lv) 31 sg_iHalfS F_iHalfS.spec := conOK_tree (om_iHalfS lv) mixed Tryz.func31 (by kernel_rfl) (congrFun run_iHalfS (lib lv))
theorem cong_iHalfS (lv : LibV) : ConOK Tryz.prog (glb ++ lib lv) 31 sg_iHalfS G_iHalfS.spec := (con_iHalfS lv).as as_iHalfS
def sg_l2SumP : Sig := { args := [.ag ζc5, .s ζc19, .ag ζc13], pre := [], tin := ζc16, gin := [], res := .tu ζc22, post := [], tout := ζc6, gout := [] }
def cl_l2SumP : List (Nat × Sig) := [(86, sg_sFracValid), (110, sg_l2Low)]
theorem run_l2SumP : (fun H : List (Nat × List Sc) => run ⟨Tryz.prog, glb ++ H, cl_l2SumP⟩ [] Tryz.f117 sg_l2SumP (Tryz.f117.body.getD .skip)) = fun _ => tr_l2SumP := by kernel_rfl
theorem om_l2SumP (lv : LibV) : ΩOK ⟨Tryz.prog, (glb ++ lib lv), cl_l2SumP⟩ (specsOf Fs_l2SumP) := (ΩOK_cons (cong_sFracValid lv) Tryz.call86 (ΩOK_cons (cong_l2Low lv) Tryz.call110 ΩOK_nil))
theorem con_l2SumP (lv : LibV) : ConOK Tryz.prog (glb ++ lib lv) 117 sg_l2SumP F_l2SumP.spec := conOK_tree (om_l2SumP lv) mixed Tryz.func117 (by kernel_rfl) (congrFun run_l2SumP (lib lv))
theorem cong_l2SumP (lv : LibV) : ConOK Tryz.prog (glb ++ lib lv) 117 sg_l2SumP G_l2SumP.spec := (con_l2SumP lv).as as_l2SumP
def sg_l2SumM : Sig := { args := [.ag ζc5, .s ζc30, .ag ζc13], pre := [], tin := ζc16, gin := [], res := .tu ζc22, post := [], tout := ζc6, gout := [] }
def cl_l2SumM : List (Nat × Sig) := [(86, sg_sFracValid), (110, sg_l2Low)]
theorem run_l2SumM : (fun H : List (Nat × List Sc) => run ⟨Tryz.prog, glb ++ H, cl_l2SumM⟩ [] Tryz.f117 sg_l2SumM (Tryz.f117.body.getD .skip)) = fun _ => tr_l2SumM := by kernel_rfl
theorem om_l2SumM (lv : LibV) : ΩOK ⟨Tryz.prog, (glb ++ lib lv), cl_l2SumM⟩ (specsOf Fs_l2SumM) := (ΩOK_cons (cong_sFracValid lv) Tryz.call86 (ΩOK_cons (cong_l2Low lv) Tryz.call110 ΩOK_nil))
theorem con_l2SumM (lv : LibV) : ConOK Tryz.prog (glb ++ lib lv) 117 sg_l2SumM F_l2SumM.spec := conOK_tree (om_l2SumM lv) mixed Tryz.func117 (by kernel_rfl) (congrFun run_l2SumM (lib lv))
theorem cong_l2SumM (lv : LibV) : ConOK Tryz.prog (glb ++ lib lv) 117 sg_l2SumM G_l2SumM.spec := (con_l2SumM lv).as as_l2SumM
def sg_l6tAddP : Sig := { args := [.s ζc18, .ag ζc5, .s ζc19, .ag ζc13], pre := [⟨[.e (.var 6)], 98⟩], tin := ζc17, gin := [], res := .c ζc33, post := [⟨ζc25, 98⟩], tout := ζc6, gout := [] }
def cl_l6tAddP : List (Nat × Sig) := [(117, sg_l2SumP)]
theorem run_l6tAddP : (fun H : List (Nat × List Sc) => run ⟨Tryz.prog, glb ++ H, cl_l6tAddP⟩ [] Tryz.f96 sg_l6tAddP (Tryz.f96.body.getD .skip)) = fun _ => tr_l6tAddP := by kernel_rfl
theorem om_l6tAddP (lv : LibV) : ΩOK ⟨Tryz.prog, (glb ++ lib lv), cl_l6tAddP⟩ (specsOf Fs_l6tAddP) := (ΩOK_cons (cong_l2SumP lv) Tryz.call117 ΩOK_nil)
theorem con_l6tAddP (lv : LibV) : ConOK Tryz.prog (glb ++ lib lv) 96 sg_l6tAddP F_l6tAddP.spec := conOK_tree (om_l6tAddP lv) mixed Tryz.func96 (by kernel_rfl) (congrFun run_l6tAddP (lib lv))
theorem cong_l6tAddP (lv : LibV) : ConOK Tryz.prog (glb ++ lib lv) 96 sg_l6tAddP G_l6tAddP.spec := (con_l6tAddP lv).as as_l6tAddP
def sg_l6tAddM : Sig := { args := [.s ζc18, .ag ζc5, .s ζc30, .ag ζc13], pre := [⟨[.e (.var 6)], 98⟩], tin := ζc17, gin := [], res := .c ζc33, post := [⟨ζc25, 98⟩], tout := ζc6, gout := [] }
def cl_l6tAddM : List (Nat × Sig) := [(117, sg_l2SumM)]
theorem run_l6tAddM : (fun H : List (Nat × List Sc) => run ⟨Tryz.prog, glb ++ H, cl_l6tAddM⟩ [] Tryz.f96 sg_l6tAddM (Tryz.f96.body.getD .skip)) = fun _ => tr_l6tAddM := by kernel_rfl
theorem om_l6tAddM (lv : LibV) : ΩOK ⟨Tryz.prog, (glb ++ lib lv), cl_l6tAddM⟩ (specsOf Fs_l6tAddM) := (ΩOK_cons (cong_l2SumM lv) Tryz.call117 ΩOK_nil)
theorem con_l6tAddM (lv : LibV) : ConOK Tryz.prog (glb ++ lib lv) 96 sg_l6tAddM F_l6tAddM.spec := conOK_tree (om_l6tAddM lv) mixed Tryz.func96 (by kernel_rfl) (congrFun run_l6tAddM (lib lv))
theorem cong_l6tAddM (lv : LibV) : ConOK Tryz.prog (glb ++ lib lv) 96 sg_l6tAddM G_l6tAddM.spec := (con_l6tAddM lv).as as_l6tAddM
def sg_l6tPair : Sig := { args := [.s ζc18, .ag ζc5, .ag ζc13], pre := [⟨[.e (.var 6)], 98⟩], tin := ζc17, gin := [], res := .c ζc33, post := [⟨ζc25, 98⟩], tout := ζc6, gout := [] }
def cl_l6tPair : List (Nat × Sig) := [(125, sg_sFracMirror), (95, sg_sFracTimes)]
theorem run_l6tPair : (fun H : List (Nat × List Sc) => run ⟨Tryz.prog, glb ++ H, cl_l6tPair⟩ [] Tryz.f115 sg_l6tPair (Tryz.f115.body.getD .skip)) = fun _ => tr_l6tPair := by kernel_rfl
theorem om_l6tPair (lv : LibV) : ΩOK ⟨Tryz.prog, (glb ++ lib lv), cl_l6tPair⟩ (specsOf Fs_l6tPair) := (ΩOK_cons (cong_sFracMirror lv) Tryz.call125 (ΩOK_cons (cong_sFracTimes lv) Tryz.call95 ΩOK_nil))
theorem con_l6tPair (lv : LibV) : ConOK Tryz.prog (glb ++ lib lv) 115 sg_l6tPair F_l6tPair.spec := conOK_tree (om_l6tPair lv) mixed Tryz.func115 (by kernel_rfl) (congrFun run_l6tPair (lib lv))
theorem cong_l6tPair (lv : LibV) : ConOK Tryz.prog (glb ++ lib lv) 115 sg_l6tPair G_l6tPair.spec := (con_l6tPair lv).as as_l6tPair
def sg_l6tPart20 : Sig := { args := [.s ζc18, .ag ζc5, .s ζc32, .s (.e (.bool false))], pre := [⟨ζc25, 98⟩], tin := ζc6, gin := [], res := .c ζc33, post := [⟨ζc25, 98⟩], tout := ζc6, gout := [] }
def cl_l6tPart20 : List (Nat × Sig) := [(87, sg_sFracMake)]
theorem run_l6tPart20 : (fun H : List (Nat × List Sc) => run ⟨Tryz.prog, glb ++ H, cl_l6tPart20⟩ [] Tryz.f116 sg_l6tPart20 (Tryz.f116.body.getD .skip)) = fun _ => tr_l6tPart20 := by kernel_rfl
theorem om_l6tPart20 (lv : LibV) : ΩOK ⟨Tryz.prog, (glb ++ lib lv), cl_l6tPart20⟩ (specsOf Fs_l6tPart20) := (ΩOK_cons (cong_sFracMake lv) Tryz.call87 ΩOK_nil)
theorem con_l6tPart20 (lv : LibV) : ConOK Tryz.prog (glb ++ lib lv) 116 sg_l6tPart20 F_l6tPart20.spec := conOK_tree (om_l6tPart20 lv) mixed Tryz.func116 (by kernel_rfl) (congrFun run_l6tPart20 (lib lv))
theorem cong_l6tPart20 (lv : LibV) : ConOK Tryz.prog (glb ++ lib lv) 116 sg_l6tPart20 G_l6tPart20.spec := (con_l6tPart20 lv).as as_l6tPart20
def sg_l6tPart10 : Sig := { args := [.s ζc18, .ag ζc5, .s ζc19, .s (.e (.bool false))], pre := [⟨ζc25, 98⟩], tin := ζc6, gin := [], res := .c ζc33, post := [⟨ζc25, 98⟩], tout := ζc6, gout := [] }
def cl_l6tPart10 : List (Nat × Sig) := [(87, sg_sFracMake)]
theorem run_l6tPart10 : (fun H : List (Nat × List Sc) => run ⟨Tryz.prog, glb ++ H, cl_l6tPart10⟩ [] Tryz.f116 sg_l6tPart10 (Tryz.f116.body.getD .skip)) = fun _ => tr_l6tPart10 := by kernel_rfl
theorem om_l6tPart10 (lv : LibV) : ΩOK ⟨Tryz.prog, (glb ++ lib lv), cl_l6tPart10⟩ (specsOf Fs_l6tPart10) := (ΩOK_cons (cong_sFracMake lv) Tryz.call87 ΩOK_nil)
theorem con_l6tPart10 (lv : LibV) : ConOK Tryz.prog (glb ++ lib lv) 116 sg_l6tPart10 F_l6tPart10.spec := conOK_tree (om_l6tPart10 lv) mixed Tryz.func116 (by kernel_rfl) (congrFun run_l6tPart10 (lib lv))
theorem cong_l6tPart10 (lv : LibV) : ConOK Tryz.prog (glb ++ lib lv) 116 sg_l6tPart10 G_l6tPart10.spec := (con_l6tPart10 lv).as as_l6tPart10
def sg_l6tPart11 : Sig := { args := [.s ζc18, .ag ζc5, .s ζc19, .s (.e (.bool true))], pre := [⟨ζc25, 98⟩], tin := ζc6, gin := [], res := .c ζc33, post := [⟨ζc25, 98⟩], tout := ζc6, gout := [] }
def cl_l6tPart11 : List (Nat × Sig) := [(87, sg_sFracMake)]
theorem run_l6tPart11 : (fun H : List (Nat × List Sc) => run ⟨Tryz.prog, glb ++ H, cl_l6tPart11⟩ [] Tryz.f116 sg_l6tPart11 (Tryz.f116.body.getD .skip)) = fun _ => tr_l6tPart11 := by kernel_rfl
theorem om_l6tPart11 (lv : LibV) : ΩOK ⟨Tryz.prog, (glb ++ lib lv), cl_l6tPart11⟩ (specsOf Fs_l6tPart11) := (ΩOK_cons (cong_sFracMake lv) Tryz.call87 ΩOK_nil)
theorem con_l6tPart11 (lv : LibV) : ConOK Tryz.prog (glb ++ lib lv) 116 sg_l6tPart11 F_l6tPart11.spec := conOK_tree (om_l6tPart11 lv) mixed Tryz.func116 (by kernel_rfl) (congrFun run_l6tPart11 (lib lv))
theorem cong_l6tPart11 (lv : LibV) : ConOK Tryz.prog (glb ++ lib lv) 116 sg_l6tPart11 G_l6tPart11.spec := (con_l6tPart11 lv).as as_l6tPart11
def sg_l6tPowersA : Sig := { args := [.s ζc18, .ag ζc1, .s ζc19, .s ζc19, .s ζc19], pre := [⟨ζc35, 98⟩], tin := ζc4, gin := [], res := .c ζc33, post := [⟨ζc25, 98⟩], tout := ζc6, gout := [] }
def cl_l6tPowersA : List (Nat × Sig) := [(115, sg_l6tPair), (96, sg_l6tAddP), (96, sg_l6tAddM), (116, sg_l6tPart20)]
theorem run_l6tPowersA : (fun H : List (Nat × List Sc) => run ⟨Tryz.prog, glb ++ H, cl_l6tPowersA⟩ [] Tryz.f93 sg_l6tPowersA (Tryz.f93.body.getD .skip)) = fun _ => tr_l6tPowersA := by kernel_rfl
theorem om_l6tPowersA (lv : LibV) : ΩOK ⟨Tryz.prog, (glb ++ lib lv), cl_l6tPowersA⟩ (specsOf Fs_l6tPowersA) := (ΩOK_cons (cong_l6tPair lv) Tryz.call115 (ΩOK_cons (cong_l6tAddP lv) Tryz.call96 (ΩOK_cons (cong_l6tAddM lv) Tryz.call96 (ΩOK_cons (cong_l6tPart20 lv) Tryz.call116 ΩOK_nil))))
theorem con_l6tPowersA (lv : LibV) : ConOK Tryz.prog (glb ++ lib lv) 93 sg_l6tPowersA F_l6tPowersA.spec := conOK_tree (om_l6tPowersA lv) mixed Tryz.func93 (by kernel_rfl) (congrFun run_l6tPowersA (lib lv))
def sg_l6tPowersB : Sig := { args := [.s ζc18, .ag ζc1, .s ζc30, .s ζc19, .s ζc30], pre := [⟨ζc35, 98⟩], tin := ζc4, gin := [], res := .c ζc33, post := [⟨ζc25, 98⟩], tout := ζc6, gout := [] }
def cl_l6tPowersB : List (Nat × Sig) := [(115, sg_l6tPair), (96, sg_l6tAddP), (96, sg_l6tAddM), (116, sg_l6tPart20)]
theorem run_l6tPowersB : (fun H : List (Nat × List Sc) => run ⟨Tryz.prog, glb ++ H, cl_l6tPowersB⟩ [] Tryz.f93 sg_l6tPowersB (Tryz.f93.body.getD .skip)) = fun _ => tr_l6tPowersB := by kernel_rfl
theorem om_l6tPowersB (lv : LibV) : ΩOK ⟨Tryz.prog, (glb ++ lib lv), cl_l6tPowersB⟩ (specsOf Fs_l6tPowersB) := (ΩOK_cons (cong_l6tPair lv) Tryz.call115 (ΩOK_cons (cong_l6tAddP lv) Tryz.call96 (ΩOK_cons (cong_l6tAddM lv) Tryz.call96 (ΩOK_cons (cong_l6tPart20 lv) Tryz.call116 ΩOK_nil))))
theorem con_l6tPowersB (lv : LibV) : ConOK Tryz.prog (glb ++ lib lv) 93 sg_l6tPowersB F_l6tPowersB.spec := conOK_tree (om_l6tPowersB lv) mixed Tryz.func93 (by kernel_rfl) (congrFun run_l6tPowersB (lib lv))
def sg_l6tPowersC : Sig := { args := [.s ζc18, .ag ζc1, .s ζc19, .s ζc30, .s ζc30], pre := [⟨ζc35, 98⟩], tin := ζc4, gin := [], res := .c ζc33, post := [⟨ζc25, 98⟩], tout := ζc6, gout := [] }
def cl_l6tPowersC : List (Nat × Sig) := [(115, sg_l6tPair), (96, sg_l6tAddP), (96, sg_l6tAddM), (116, sg_l6tPart20)]
theorem run_l6tPowersC : (fun H : List (Nat × List Sc) => run ⟨Tryz.prog, glb ++ H, cl_l6tPowersC⟩ [] Tryz.f93 sg_l6tPowersC (Tryz.f93.body.getD .skip)) = fun _ => tr_l6tPowersC := by kernel_rfl
theorem om_l6tPowersC (lv : LibV) : ΩOK ⟨Tryz.prog, (glb ++ lib lv), cl_l6tPowersC⟩ (specsOf Fs_l6tPowersC) := (ΩOK_cons (cong_l6tPair lv) Tryz.call115 (ΩOK_cons (cong_l6tAddP lv) Tryz.call96 (ΩOK_cons (cong_l6tAddM lv) Tryz.call96 (ΩOK_cons (cong_l6tPart20 lv) Tryz.call116 ΩOK_nil))))
theorem con_l6tPowersC (lv : LibV) : ConOK Tryz.prog (glb ++ lib lv) 93 sg_l6tPowersC F_l6tPowersC.spec := conOK_tree (om_l6tPowersC lv) mixed Tryz.func93 (by kernel_rfl) (congrFun run_l6tPowersC (lib lv))
def sg_l6tPowersD : Sig := { args := [.s ζc18, .ag ζc1, .s ζc30, .s ζc30, .s ζc19], pre := [⟨ζc35, 98⟩], tin := ζc4, gin := [], res := .c ζc33, post := [⟨ζc25, 98⟩], tout := ζc6, gout := [] }
def cl_l6tPowersD : List (Nat × Sig) := [(115, sg_l6tPair), (96, sg_l6tAddP), (96, sg_l6tAddM), (116, sg_l6tPart20)]
theorem run_l6tPowersD : (fun H : List (Nat × List Sc) => run ⟨Tryz.prog, glb ++ H, cl_l6tPowersD⟩ [] Tryz.f93 sg_l6tPowersD (Tryz.f93.body.getD .skip)) = fun _ => tr_l6tPowersD := by kernel_rfl
theorem om_l6tPowersD (lv : LibV) : ΩOK ⟨Tryz.prog, (glb ++ lib lv), cl_l6tPowersD⟩ (specsOf Fs_l6tPowersD) := (ΩOK_cons (cong_l6tPair lv) Tryz.call115 (ΩOK_cons (cong_l6tAddP lv) Tryz.call96 (ΩOK_cons (cong_l6tAddM lv) Tryz.call96 (ΩOK_cons (cong_l6tPart20 lv) Tryz.call116 ΩOK_nil))))
theorem con_l6tPowersD (lv : LibV) : ConOK Tryz.prog (glb ++ lib lv) 93 sg_l6tPowersD F_l6tPowersD.spec := conOK_tree (om_l6tPowersD lv) mixed Tryz.func93 (by kernel_rfl) (congrFun run_l6tPowersD (lib lv))
def sg_l6tTwo2 : Sig := { args := [.s ζc18, .ag ζc1, .s ζc29, .s ζc19, .s ζc19, .s ζc32, .s ζc34, .s (.e (.bool false))], pre := [⟨ζc35, 98⟩], tin := ζc4, gin := [], res := .c ζc33, post := [⟨ζc25, 98⟩], tout := ζc6, gout := [] }
def cl_l6tTwo2 : List (Nat × Sig) := [(115, sg_l6tPair), (96, sg_l6tAddP), (116, sg_l6tPart10)]
theorem run_l6tTwo2 : (fun H : List (Nat × List Sc) => run ⟨Tryz.prog, glb ++ H, cl_l6tTwo2⟩ [] Tryz.f94 sg_l6tTwo2 (Tryz.f94.body.getD .skip)) = fun _ => tr_l6tTwo2 := by kernel_rfl
theorem om_l6tTwo2 (lv : LibV) : ΩOK ⟨Tryz.prog, (glb ++ lib lv), cl_l6tTwo2⟩ (specsOf Fs_l6tTwo2) := (ΩOK_cons (cong_l6tPair lv) Tryz.call115 (ΩOK_cons (cong_l6tAddP lv) Tryz.call96 (ΩOK_cons (cong_l6tPart10 lv) Tryz.call116 ΩOK_nil)))
theorem con_l6tTwo2 (lv : LibV) : ConOK Tryz.prog (glb ++ lib lv) 94 sg_l6tTwo2 F_l6tTwo2.spec := conOK_tree (om_l6tTwo2 lv) mixed Tryz.func94 (by kernel_rfl) (congrFun run_l6tTwo2 (lib lv))
def sg_l6tTwo3 : Sig := { args := [.s ζc18, .ag ζc1, .s ζc19, .s ζc29, .s ζc19, .s ζc34, .s ζc32, .s (.e (.bool true))], pre := [⟨ζc35, 98⟩], tin := ζc4, gin := [], res := .c ζc33, post := [⟨ζc25, 98⟩], tout := ζc6, gout := [] }
def cl_l6tTwo3 : List (Nat × Sig) := [(115, sg_l6tPair), (96, sg_l6tAddP), (116, sg_l6tPart11)]
theorem run_l6tTwo3 : (fun H : List (Nat × List Sc) => run ⟨Tryz.prog, glb ++ H, cl_l6tTwo3⟩ [] Tryz.f94 sg_l6tTwo3 (Tryz.f94.body.getD .skip)) = fun _ => tr_l6tTwo3 := by kernel_rfl
theorem om_l6tTwo3 (lv : LibV) : ΩOK ⟨Tryz.prog, (glb ++ lib lv), cl_l6tTwo3⟩ (specsOf Fs_l6tTwo3) := (ΩOK_cons (cong_l6tPair lv) Tryz.call115 (ΩOK_cons (cong_l6tAddP lv) Tryz.call96 (ΩOK_cons (cong_l6tPart11 lv) Tryz.call116 ΩOK_nil)))
theorem con_l6tTwo3 (lv : LibV) : ConOK Tryz.prog (glb ++ lib lv) 94 sg_l6tTwo3 F_l6tTwo3.spec := conOK_tree (om_l6tTwo3 lv) mixed Tryz.func94 (by kernel_rfl) (congrFun run_l6tTwo3 (lib lv))
def sg_l6tTwo6 : Sig := { args := [.s ζc18, .ag ζc1, .s ζc29, .s ζc19, .s ζc30, .s ζc32, .s ζc34, .s (.e (.bool false))], pre := [⟨ζc35, 98⟩], tin := ζc4, gin := [], res := .c ζc33, post := [⟨ζc25, 98⟩], tout := ζc6, gout := [] }
def cl_l6tTwo6 : List (Nat × Sig) := [(115, sg_l6tPair), (96, sg_l6tAddM), (116, sg_l6tPart10)]
theorem run_l6tTwo6 : (fun H : List (Nat × List Sc) => run ⟨Tryz.prog, glb ++ H, cl_l6tTwo6⟩ [] Tryz.f94 sg_l6tTwo6 (Tryz.f94.body.getD .skip)) = fun _ => tr_l6tTwo6 := by kernel_rfl
theorem om_l6tTwo6 (lv : LibV) : ΩOK ⟨Tryz.prog, (glb ++ lib lv), cl_l6tTwo6⟩ (specsOf Fs_l6tTwo6) := (ΩOK_cons (cong_l6tPair lv) Tryz.call115 (ΩOK_cons (cong_l6tAddM lv) Tryz.call96 (ΩOK_cons (cong_l6tPart10 lv) Tryz.call116 ΩOK_nil)))
theorem con_l6tTwo6 (lv : LibV) : ConOK Tryz.prog (glb ++ lib lv) 94 sg_l6tTwo6 F_l6tTwo6.spec := conOK_tree (om_l6tTwo6 lv) mixed Tryz.func94 (by kernel_rfl) (congrFun run_l6tTwo6 (lib lv))
def sg_l6tTwo7 : Sig := { args := [.s ζc18, .ag ζc1, .s ζc19, .s ζc29, .s ζc30, .s ζc34, .s ζc32, .s (.e (.bool true))], pre := [⟨ζc35, 98⟩], tin := ζc4, gin := [], res := .c ζc33, post := [⟨ζc25, 98⟩], tout := ζc6, gout := [] }
def cl_l6tTwo7 : List (Nat × Sig) := [(115, sg_l6tPair), (96, sg_l6tAddM), (116, sg_l6tPart11)]
theorem run_l6tTwo7 : (fun H : List (Nat × List Sc) => run ⟨Tryz.prog, glb ++ H, cl_l6tTwo7⟩ [] Tryz.f94 sg_l6tTwo7 (Tryz.f94.body.getD .skip)) = fun _ => tr_l6tTwo7 := by kernel_rfl
theorem om_l6tTwo7 (lv : LibV) : ΩOK ⟨Tryz.prog, (glb ++ lib lv), cl_l6tTwo7⟩ (specsOf Fs_l6tTwo7) := (ΩOK_cons (cong_l6tPair lv) Tryz.call115 (ΩOK_cons (cong_l6tAddM lv) Tryz.call96 (ΩOK_cons (cong_l6tPart11 lv) Tryz.call116 ΩOK_nil)))
theorem con_l6tTwo7 (lv : LibV) : ConOK Tryz.prog (glb ++ lib lv) 94 sg_l6tTwo7 F_l6tTwo7.spec := conOK_tree (om_l6tTwo7 lv) mixed Tryz.func94 (by kernel_rfl) (congrFun run_l6tTwo7 (lib lv))
def sg_l6tTwo8 : Sig := { args := [.s ζc18, .ag ζc1, .s ζc29, .s ζc32, .s ζc19, .s ζc19, .s ζc34, .s (.e (.bool false))], pre := [⟨ζc35, 98⟩], tin := ζc4, gin := [], res := .c ζc33, post := [⟨ζc25, 98⟩], tout := ζc6, gout := [] }
def cl_l6tTwo8 : List (Nat × Sig) := [(115, sg_l6tPair), (96, sg_l6tAddP), (116, sg_l6tPart10)]
theorem run_l6tTwo8 : (fun H : List (Nat × List Sc) => run ⟨Tryz.prog, glb ++ H, cl_l6tTwo8⟩ [] Tryz.f94 sg_l6tTwo8 (Tryz.f94.body.getD .skip)) = fun _ => tr_l6tTwo8 := by kernel_rfl
theorem om_l6tTwo8 (lv : LibV) : ΩOK ⟨Tryz.prog, (glb ++ lib lv), cl_l6tTwo8⟩ (specsOf Fs_l6tTwo8) := (ΩOK_cons (cong_l6tPair lv) Tryz.call115 (ΩOK_cons (cong_l6tAddP lv) Tryz.call96 (ΩOK_cons (cong_l6tPart10 lv) Tryz.call116 ΩOK_nil)))
theorem con_l6tTwo8 (lv : LibV) : ConOK Tryz.prog (glb ++ lib lv) 94 sg_l6tTwo8 F_l6tTwo8.spec := conOK_tree (om_l6tTwo8 lv) mixed Tryz.func94 (by kernel_rfl) (congrFun run_l6tTwo8 (lib lv))
def sg_l6tTwo9 : Sig := { args := [.s ζc18, .ag ζc1, .s ζc29, .s ζc32, .s ζc30, .s ζc19, .s ζc34, .s (.e (.bool false))], pre := [⟨ζc35, 98⟩], tin := ζc4, gin := [], res := .c ζc33, post := [⟨ζc25, 98⟩], tout := ζc6, gout := [] }
def cl_l6tTwo9 : List (Nat × Sig) := [(115, sg_l6tPair), (96, sg_l6tAddM), (116, sg_l6tPart10)]
theorem run_l6tTwo9 : (fun H : List (Nat × List Sc) => run ⟨Tryz.prog, glb ++ H, cl_l6tTwo9⟩ [] Tryz.f94 sg_l6tTwo9 (Tryz.f94.body.getD .skip)) = fun _ => tr_l6tTwo9 := by kernel_rfl
theorem om_l6tTwo9 (lv : LibV) : ΩOK ⟨Tryz.prog, (glb ++ lib lv), cl_l6tTwo9⟩ (specsOf Fs_l6tTwo9) := (ΩOK_cons (cong_l6tPair lv) Tryz.call115 (ΩOK_cons (cong_l6tAddM lv) Tryz.call96 (ΩOK_cons (cong_l6tPart10 lv) Tryz.call116 ΩOK_nil)))
theorem con_l6tTwo9 (lv : LibV) : ConOK Tryz.prog (glb ++ lib lv) 94 sg_l6tTwo9 F_l6tTwo9.spec := conOK_tree (om_l6tTwo9 lv) mixed Tryz.func94 (by kernel_rfl) (congrFun run_l6tTwo9 (lib lv))
def sg_l6tTwo10 : Sig := { args := [.s ζc18, .ag ζc1, .s ζc29, .s ζc34, .s ζc19, .s ζc19, .s ζc32, .s (.e (.bool false))], pre := [⟨ζc35, 98⟩], tin := ζc4, gin := [], res := .c ζc33, post := [⟨ζc25, 98⟩], tout := ζc6, gout := [] }
def cl_l6tTwo10 : List (Nat × Sig) := [(115, sg_l6tPair), (96, sg_l6tAddP), (116, sg_l6tPart10)]
theorem run_l6tTwo10 : (fun H : List (Nat × List Sc) => run ⟨Tryz.prog, glb ++ H, cl_l6tTwo10⟩ [] Tryz.f94 sg_l6tTwo10 (Tryz.f94.body.getD .skip)) = fun _ => tr_l6tTwo10 := by kernel_rfl
theorem om_l6tTwo10 (lv : LibV) : ΩOK ⟨Tryz.prog, (glb ++ lib lv), cl_l6tTwo10⟩ (specsOf Fs_l6tTwo10) := (ΩOK_cons (cong_l6tPair lv) Tryz.call115 (ΩOK_cons (cong_l6tAddP lv) Tryz.call96 (ΩOK_cons (cong_l6tPart10 lv) Tryz.call116 ΩOK_nil)))
theorem con_l6tTwo10 (lv : LibV) : ConOK Tryz.prog (glb ++ lib lv) 94 sg_l6tTwo10 F_l6tTwo10.spec := conOK_tree (om_l6tTwo10 lv) mixed Tryz.func94 (by kernel_rfl) (congrFun run_l6tTwo10 (lib lv))
def sg_l6tTwo11 : Sig := { args := [.s ζc18, .ag ζc1, .s ζc19, .s ζc32, .s ζc30, .s ζc29, .s ζc34, .s (.e (.bool true))], pre := [⟨ζc35, 98⟩], tin := ζc4, gin := [], res := .c ζc33, post := [⟨ζc25, 98⟩], tout := ζc6, gout := [] }
def cl_l6tTwo11 : List (Nat × Sig) := [(115, sg_l6tPair), (96, sg_l6tAddM), (116, sg_l6tPart11)]
theorem run_l6tTwo11 : (fun H : List (Nat × List Sc) => run ⟨Tryz.prog, glb ++ H, cl_l6tTwo11⟩ [] Tryz.f94 sg_l6tTwo11 (Tryz.f94.body.getD .skip)) = fun _ => tr_l6tTwo11 := by kernel_rfl
theorem om_l6tTwo11 (lv : LibV) : ΩOK ⟨Tryz.prog, (glb ++ lib lv), cl_l6tTwo11⟩ (specsOf Fs_l6tTwo11) := (ΩOK_cons (cong_l6tPair lv) Tryz.call115 (ΩOK_cons (cong_l6tAddM lv) Tryz.call96 (ΩOK_cons (cong_l6tPart11 lv) Tryz.call116 ΩOK_nil)))
theorem con_l6tTwo11 (lv : LibV) : ConOK Tryz.prog (glb ++ lib lv) 94 sg_l6tTwo11 F_l6tTwo11.spec := conOK_tree (om_l6tTwo11 lv) mixed Tryz.func94 (by kernel_rfl) (congrFun run_l6tTwo11 (lib lv))
def sg_l6tTwo12 : Sig := { args := [.s ζc18, .ag ζc1, .s ζc29, .s ζc32, .s ζc19, .s ζc19, .s ζc34, .s (.e (.bool true))], pre := [⟨ζc35, 98⟩], tin := ζc4, gin := [], res := .c ζc33, post := [⟨ζc25, 98⟩], tout := ζc6, gout := [] }
def cl_l6tTwo12 : List (Nat × Sig) := [(115, sg_l6tPair), (96, sg_l6tAddP), (116, sg_l6tPart11)]
theorem run_l6tTwo12 : (fun H : List (Nat × List Sc) => run ⟨Tryz.prog, glb ++ H, cl_l6tTwo12⟩ [] Tryz.f94 sg_l6tTwo12 (Tryz.f94.body.getD .skip)) = fun _ => tr_l6tTwo12 := by kernel_rfl
theorem om_l6tTwo12 (lv : LibV) : ΩOK ⟨Tryz.prog, (glb ++ lib lv), cl_l6tTwo12⟩ (specsOf Fs_l6tTwo12) := (ΩOK_cons (cong_l6tPair lv) Tryz.call115 (ΩOK_cons (cong_l6tAddP lv) Tryz.call96 (ΩOK_cons (cong_l6tPart11 lv) Tryz.call116 ΩOK_nil)))
theorem con_l6tTwo12 (lv : LibV) : ConOK Tryz.prog (glb ++ lib lv) 94 sg_l6tTwo12 F_l6tTwo12.spec := conOK_tree (om_l6tTwo12 lv) mixed Tryz.func94 (by kernel_rfl) (congrFun run_l6tTwo12 (lib lv))
def sg_l6tTwo13 : Sig := { args := [.s ζc18, .ag ζc1, .s ζc29, .s ζc32, .s ζc30, .s ζc19, .s ζc34, .s (.e (.bool true))], pre := [⟨ζc35, 98⟩], tin := ζc4, gin := [], res := .c ζc33, post := [⟨ζc25, 98⟩], tout := ζc6, gout := [] }
def cl_l6tTwo13 : List (Nat × Sig) := [(115, sg_l6tPair), (96, sg_l6tAddM), (116, sg_l6tPart11)]
theorem run_l6tTwo13 : (fun H : List (Nat × List Sc) => run ⟨Tryz.prog, glb ++ H, cl_l6tTwo13⟩ [] Tryz.f94 sg_l6tTwo13 (Tryz.f94.body.getD .skip)) = fun _ => tr_l6tTwo13 := by kernel_rfl
theorem om_l6tTwo13 (lv : LibV) : ΩOK ⟨Tryz.prog, (glb ++ lib lv), cl_l6tTwo13⟩ (specsOf Fs_l6tTwo13) := (ΩOK_cons (cong_l6tPair lv) Tryz.call115 (ΩOK_cons (cong_l6tAddM lv) Tryz.call96 (ΩOK_cons (cong_l6tPart11 lv) Tryz.call116 ΩOK_nil)))
theorem con_l6tTwo13 (lv : LibV) : ConOK Tryz.prog (glb ++ lib lv) 94 sg_l6tTwo13 F_l6tTwo13.spec := conOK_tree (om_l6tTwo13 lv) mixed Tryz.func94 (by kernel_rfl) (congrFun run_l6tTwo13 (lib lv))
def sg_l6tTwo14 : Sig := { args := [.s ζc18, .ag ζc1, .s ζc29, .s ζc34, .s ζc19, .s ζc19, .s ζc32, .s (.e (.bool true))], pre := [⟨ζc35, 98⟩], tin := ζc4, gin := [], res := .c ζc33, post := [⟨ζc25, 98⟩], tout := ζc6, gout := [] }
def cl_l6tTwo14 : List (Nat × Sig) := [(115, sg_l6tPair), (96, sg_l6tAddP), (116, sg_l6tPart11)]
theorem run_l6tTwo14 : (fun H : List (Nat × List Sc) => run ⟨Tryz.prog, glb ++ H, cl_l6tTwo14⟩ [] Tryz.f94 sg_l6tTwo14 (Tryz.f94.body.getD .skip)) = fun _ => tr_l6tTwo14 := by kernel_rfl
theorem om_l6tTwo14 (lv : LibV) : ΩOK ⟨Tryz.prog, (glb ++ lib lv), cl_l6tTwo14⟩ (specsOf Fs_l6tTwo14) := (ΩOK_cons (cong_l6tPair lv) Tryz.call115 (ΩOK_cons (cong_l6tAddP lv) Tryz.call96 (ΩOK_cons (cong_l6tPart11 lv) Tryz.call116 ΩOK_nil)))
theorem con_l6tTwo14 (lv : LibV) : ConOK Tryz.prog (glb ++ lib lv) 94 sg_l6tTwo14 F_l6tTwo14.spec := conOK_tree (om_l6tTwo14 lv) mixed Tryz.func94 (by kernel_rfl) (congrFun run_l6tTwo14 (lib lv))
def sg_l6tTwo15 : Sig := { args := [.s ζc18, .ag ζc1, .s ζc29, .s ζc34, .s ζc30, .s ζc19, .s ζc32, .s (.e (.bool false))], pre := [⟨ζc35, 98⟩], tin := ζc4, gin := [], res := .c ζc33, post := [⟨ζc25, 98⟩], tout := ζc6, gout := [] }
def cl_l6tTwo15 : List (Nat × Sig) := [(115, sg_l6tPair), (96, sg_l6tAddM), (116, sg_l6tPart10)]
theorem run_l6tTwo15 : (fun H : List (Nat × List Sc) => run ⟨Tryz.prog, glb ++ H, cl_l6tTwo15⟩ [] Tryz.f94 sg_l6tTwo15 (Tryz.f94.body.getD .skip)) = fun _ => tr_l6tTwo15 := by kernel_rfl
theorem om_l6tTwo15 (lv : LibV) : ΩOK ⟨Tryz.prog, (glb ++ lib lv), cl_l6tTwo15⟩ (specsOf Fs_l6tTwo15) := (ΩOK_cons (cong_l6tPair lv) Tryz.call115 (ΩOK_cons (cong_l6tAddM lv) Tryz.call96 (ΩOK_cons (cong_l6tPart10 lv) Tryz.call116 ΩOK_nil)))
theorem con_l6tTwo15 (lv : LibV) : ConOK Tryz.prog (glb ++ lib lv) 94 sg_l6tTwo15 F_l6tTwo15.spec := conOK_tree (om_l6tTwo15 lv) mixed Tryz.func94 (by kernel_rfl) (congrFun run_l6tTwo15 (lib lv))
def sg_iTableOf : Sig := { args := [.ag ζc1], pre := [], tin := ζc7, gin := [], res := .tu ζc28, post := [], tout := ζc3, gout := [] }
def cl_iTableOf : List (Nat × Sig) := [(26, sg_iMatValid), (25, sg_need), (27, sg_power), (28, sg_iPair), (31, sg_iHalfS), (34, sg_add), (35, sg_less), (36, sg_real), (37, sg_imag), (38, sg_gotTable)]
theorem run_iTableOf : (fun H : List (Nat × List Sc) => run ⟨Tryz.prog, glb ++ H, cl_iTableOf⟩ [] Tryz.f9 sg_iTableOf (Tryz.f9.body.getD .skip)) = fun _ => tr_iTableOf := by kernel_rfl
theorem om_iTableOf (lv : LibV) : ΩOK ⟨Tryz.prog, (glb ++ lib lv), cl_iTableOf⟩ (specsOf Fs_iTableOf) := (ΩOK_cons (cong_iMatValid lv) Tryz.call26 (ΩOK_cons (cong_need lv) Tryz.call25 (ΩOK_cons (cong_power lv) Tryz.call27 (ΩOK_cons (cong_iPair lv) Tryz.call28 (ΩOK_cons (cong_iHalfS lv) Tryz.call31 (ΩOK_cons (cong_add lv) Tryz.call34 (ΩOK_cons (cong_less lv) Tryz.call35 (ΩOK_cons (cong_real lv) Tryz.call36 (ΩOK_cons (cong_imag lv) Tryz.call37 (ΩOK_cons (cong_gotTable lv) Tryz.call38 ΩOK_nil))))))))))
theorem con_iTableOf (lv : LibV) : ConOK Tryz.prog (glb ++ lib lv) 9 sg_iTableOf F_iTableOf.spec := conOK_tree (om_iTableOf lv) mixed Tryz.func9 (by kernel_rfl) (congrFun run_iTableOf (lib lv))
theorem cong_iTableOf (lv : LibV) : ConOK Tryz.prog (glb ++ lib lv) 9 sg_iTableOf G_iTableOf.spec := (con_iTableOf lv).as as_iTableOf
def sg_sTableOf : Sig := { args := [.ag ζc1], pre := [], tin := ζc7, gin := [], res := .tu ζc28, post := [], tout := ζc3, gout := [] }
def cl_sTableOf : List (Nat × Sig) := [(92, sg_sMatValid), (93, sg_l6tPowersA), (93, sg_l6tPowersB), (93, sg_l6tPowersC), (93, sg_l6tPowersD), (94, sg_l6tTwo2), (94, sg_l6tTwo3), (94, sg_l6tTwo6), (94, sg_l6tTwo7), (94, sg_l6tTwo8), (94, sg_l6tTwo9), (94, sg_l6tTwo10), (94, sg_l6tTwo11), (94, sg_l6tTwo12), (94, sg_l6tTwo13), (94, sg_l6tTwo14), (94, sg_l6tTwo15)]
theorem run_sTableOf : (fun H : List (Nat × List Sc) => run ⟨Tryz.prog, glb ++ H, cl_sTableOf⟩ [] Tryz.f57 sg_sTableOf (Tryz.f57.body.getD .skip)) = fun _ => tr_sTableOf := by kernel_rfl
theorem om_sTableOf (lv : LibV) : ΩOK ⟨Tryz.prog, (glb ++ lib lv), cl_sTableOf⟩ (specsOf Fs_sTableOf) := (ΩOK_cons (cong_sMatValid lv) Tryz.call92 (ΩOK_cons (con_l6tPowersA lv) Tryz.call93 (ΩOK_cons (con_l6tPowersB lv) Tryz.call93 (ΩOK_cons (con_l6tPowersC lv) Tryz.call93 (ΩOK_cons (con_l6tPowersD lv) Tryz.call93 (ΩOK_cons (con_l6tTwo2 lv) Tryz.call94 (ΩOK_cons (con_l6tTwo3 lv) Tryz.call94 (ΩOK_cons (con_l6tTwo6 lv) Tryz.call94 (ΩOK_cons (con_l6tTwo7 lv) Tryz.call94 (ΩOK_cons (con_l6tTwo8 lv) Tryz.call94 (ΩOK_cons (con_l6tTwo9 lv) Tryz.call94 (ΩOK_cons (con_l6tTwo10 lv) Tryz.call94 (ΩOK_cons (con_l6tTwo11 lv) Tryz.call94 (ΩOK_cons (con_l6tTwo12 lv) Tryz.call94 (ΩOK_cons (con_l6tTwo13 lv) Tryz.call94 (ΩOK_cons (con_l6tTwo14 lv) Tryz.call94 (ΩOK_cons (con_l6tTwo15 lv) Tryz.call94 ΩOK_nil)))))))))))))))))
theorem con_sTableOf (lv : LibV) : ConOK Tryz.prog (glb ++ lib lv) 57 sg_sTableOf F_sTableOf.spec := conOK_tree (om_sTableOf lv) mixed Tryz.func57 (by kernel_rfl) (congrFun run_sTableOf (lib lv))
theorem cong_sTableOf (lv : LibV) : ConOK Tryz.prog (glb ++ lib lv) 57 sg_sTableOf G_sTableOf.spec := (con_sTableOf lv).as as_sTableOf
def sg_mcell00 : Sig := { args := [.s ζc29, .s ζc29, .s ζc18, .s (.p (.own 1) 0), .s (.p (.own 2) 0)], pre := [⟨[.p (.own 3) 0], 64⟩, ⟨ζc1, 33⟩, ⟨ζc10, 33⟩, ⟨[.e (.var 24)], 66⟩], tin := ζc8, gin := [], res := .c ζc33, post := [⟨[.p (.own 3) 0], 64⟩, ⟨ζc21, 33⟩, ⟨ζc20, 33⟩, ⟨[.e (.var 27)], 66⟩], tout := ζc11, gout := [] }
def cl_mcell00 : List (Nat × Sig) := [(29, sg_times), (34, sg_add)]
theorem run_mcell00 : (fun H : List (Nat × List Sc) => run ⟨Tryz.prog, glb ++ H, cl_mcell00⟩ [] Tryz.f64 sg_mcell00 (Tryz.f64.body.getD .skip)) = fun _ => tr_mcell00 := by kernel_rfl
theorem om_mcell00 (lv : LibV) : ΩOK ⟨Tryz.prog, (glb ++ lib lv), cl_mcell00⟩ (specsOf Fs_mcell00) := (ΩOK_cons (cong_times lv) Tryz.call29 (ΩOK_cons (cong_add lv) Tryz.call34 ΩOK_nil))
theorem con_mcell00 (lv : LibV) : ConOK Tryz.prog (glb ++ lib lv) 64 sg_mcell00 F_mcell00.spec := conOK_tree (om_mcell00 lv) mixed Tryz.func64 (by kernel_rfl) (congrFun run_mcell00 (lib lv))
theorem cong_mcell00 (lv : LibV) : ConOK Tryz.prog (glb ++ lib lv) 64 sg_mcell00 G_mcell00.spec := (con_mcell00 lv).as as_mcell00
def sg_mcell01 : Sig := { args := [.s ζc29, .s ζc19, .s ζc18, .s (.p (.own 1) 0), .s (.p (.own 2) 0)], pre := [⟨[.p (.own 3) 0], 64⟩, ⟨ζc1, 33⟩, ⟨ζc10, 33⟩, ⟨[.e (.var 24)], 66⟩], tin := ζc8, gin := [], res := .c ζc33, post := [⟨[.p (.own 3) 0], 64⟩, ⟨ζc21, 33⟩, ⟨ζc20, 33⟩, ⟨[.e (.var 27)], 66⟩], tout := ζc11, gout := [] }
def cl_mcell01 : List (Nat × Sig) := [(29, sg_times), (34, sg_add)]
theorem run_mcell01 : (fun H : List (Nat × List Sc) => run ⟨Tryz.prog, glb ++ H, cl_mcell01⟩ [] Tryz.f64 sg_mcell01 (Tryz.f64.body.getD .skip)) = fun _ => tr_mcell01 := by kernel_rfl
theorem om_mcell01 (lv : LibV) : ΩOK ⟨Tryz.prog, (glb ++ lib lv), cl_mcell01⟩ (specsOf Fs_mcell01) := (ΩOK_cons (cong_times lv) Tryz.call29 (ΩOK_cons (cong_add lv) Tryz.call34 ΩOK_nil))
theorem con_mcell01 (lv : LibV) : ConOK Tryz.prog (glb ++ lib lv) 64 sg_mcell01 F_mcell01.spec := conOK_tree (om_mcell01 lv) mixed Tryz.func64 (by kernel_rfl) (congrFun run_mcell01 (lib lv))
theorem cong_mcell01 (lv : LibV) : ConOK Tryz.prog (glb ++ lib lv) 64 sg_mcell01 G_mcell01.spec := (con_mcell01 lv).as as_mcell01
def sg_mcell10 : Sig := { args := [.s ζc19, .s ζc29, .s ζc18, .s (.p (.own 1) 0), .s (.p (.own 2) 0)], pre := [⟨[.p (.own 3) 0], 64⟩, ⟨ζc1, 33⟩, ⟨ζc10, 33⟩, ⟨[.e (.var 24)], 66⟩], tin := ζc8, gin := [], res := .c ζc33, post := [⟨[.p (.own 3) 0], 64⟩, ⟨ζc21, 33⟩, ⟨ζc20, 33⟩, ⟨[.e (.var 27)], 66⟩], tout := ζc11, gout := [] }
def cl_mcell10 : List (Nat × Sig) := [(29, sg_times), (34, sg_add)]
theorem run_mcell10 : (fun H : List (Nat × List Sc) => run ⟨Tryz.prog, glb ++ H, cl_mcell10⟩ [] Tryz.f64 sg_mcell10 (Tryz.f64.body.getD .skip)) = fun _ => tr_mcell10 := by kernel_rfl
theorem om_mcell10 (lv : LibV) : ΩOK ⟨Tryz.prog, (glb ++ lib lv), cl_mcell10⟩ (specsOf Fs_mcell10) := (ΩOK_cons (cong_times lv) Tryz.call29 (ΩOK_cons (cong_add lv) Tryz.call34 ΩOK_nil))
theorem con_mcell10 (lv : LibV) : ConOK Tryz.prog (glb ++ lib lv) 64 sg_mcell10 F_mcell10.spec := conOK_tree (om_mcell10 lv) mixed Tryz.func64 (by kernel_rfl) (congrFun run_mcell10 (lib lv))
theorem cong_mcell10 (lv : LibV) : ConOK Tryz.prog (glb ++ lib lv) 64 sg_mcell10 G_mcell10.spec := (con_mcell10 lv).as as_mcell10
def sg_mcell11 : Sig := { args := [.s ζc19, .s ζc19, .s ζc18, .s (.p (.own 1) 0), .s (.p (.own 2) 0)], pre := [⟨[.p (.own 3) 0], 64⟩, ⟨ζc1, 33⟩, ⟨ζc10, 33⟩, ⟨[.e (.var 24)], 66⟩], tin := ζc8, gin := [], res := .c ζc33, post := [⟨[.p (.own 3) 0], 64⟩, ⟨ζc21, 33⟩, ⟨ζc20, 33⟩, ⟨[.e (.var 27)], 66⟩], tout := ζc11, gout := [] }
def cl_mcell11 : List (Nat × Sig) := [(29, sg_times), (34, sg_add)]
theorem run_mcell11 : (fun H : List (Nat × List Sc) => run ⟨Tryz.prog, glb ++ H, cl_mcell11⟩ [] Tryz.f64 sg_mcell11 (Tryz.f64.body.getD .skip)) = fun _ => tr_mcell11 := by kernel_rfl
theorem om_mcell11 (lv : LibV) : ΩOK ⟨Tryz.prog, (glb ++ lib lv), cl_mcell11⟩ (specsOf Fs_mcell11) := (ΩOK_cons (cong_times lv) Tryz.call29 (ΩOK_cons (cong_add lv) Tryz.call34 ΩOK_nil))
theorem con_mcell11 (lv : LibV) : ConOK Tryz.prog (glb ++ lib lv) 64 sg_mcell11 F_mcell11.spec := conOK_tree (om_mcell11 lv) mixed Tryz.func64 (by kernel_rfl) (congrFun run_mcell11 (lib lv))
theorem cong_mcell11 (lv : LibV) : ConOK Tryz.prog (glb ++ lib lv) 64 sg_mcell11 G_mcell11.spec := (con_mcell11 lv).as as_mcell11
def sg_gotMat : Sig := { args := [.s ζc18, .ag ζc1], pre := [⟨ζc35, 66⟩], tin := ζc4, gin := [], res := .tu ζc23, post := [⟨[.e (.var 13)], 66⟩], tout := ζc36, gout := [] }
def cl_gotMat : List (Nat × Sig) := []
theorem run_gotMat : (fun H : List (Nat × List Sc) => run ⟨Tryz.prog, glb ++ H, cl_gotMat⟩ [] Tryz.f65 sg_gotMat (Tryz.f65.body.getD .skip)) = fun _ => tr_gotMat := by kernel_rfl
theorem om_gotMat (lv : LibV) : ΩOK ⟨Tryz.prog, (glb ++ lib lv), cl_gotMat⟩ (specsOf Fs_gotMat) := ΩOK_nil
theorem con_gotMat (lv : LibV) : ConOK Tryz.prog (glb ++ lib lv) 65 sg_gotMat F_gotMat.spec := conOK_tree (om_gotMat lv) mixed Tryz.func65 (by kernel_rfl) (congrFun run_gotMat (lib lv))
theorem cong_gotMat (lv : LibV) : ConOK Tryz.prog (glb ++ lib lv) 65 sg_gotMat G_gotMat.spec := (con_gotMat lv).as as_gotMat
def sg_iMatTimes : Sig := { args := [.ag ζc1, .ag ζc10], pre := [], tin := ζc26, gin := [], res := .tu ζc23, post := [], tout := ζc4, gout := [] }
def cl_iMatTimes : List (Nat × Sig) := [(26, sg_iMatValid), (25, sg_need), (64, sg_mcell00), (64, sg_mcell01), (64, sg_mcell10), (64, sg_mcell11), (65, sg_gotMat)]
theorem run_iMatTimes : (fun H : List (Nat × List Sc) => run ⟨Tryz.prog, glb ++ H, cl_iMatTimes⟩ [] Tryz.f24 sg_iMatTimes (Tryz.f24.body.getD .skip)) = fun _ => tr_iMatTimes := by kernel_rfl
theorem om_iMatTimes (lv : LibV) : ΩOK ⟨Tryz.prog, (glb ++ lib lv), cl_iMatTimes⟩ (specsOf Fs_iMatTimes) := (ΩOK_cons (cong_iMatValid lv) Tryz.call26 (ΩOK_cons (cong_need lv) Tryz.call25 (ΩOK_cons (cong_mcell00 lv) Tryz.call64 (ΩOK_cons (cong_mcell01 lv) Tryz.call64 (ΩOK_cons (cong_mcell10 lv) Tryz.call64 (ΩOK_cons (cong_mcell11 lv) Tryz.call64 (ΩOK_cons (cong_gotMat lv) Tryz.call65 ΩOK_nil)))))))
theorem con_iMatTimes (lv : LibV) : ConOK Tryz.prog (glb ++ lib lv) 24 sg_iMatTimes F_iMatTimes.spec := conOK_tree (om_iMatTimes lv) mixed Tryz.func24 (by kernel_rfl) (congrFun run_iMatTimes (lib lv))
theorem cong_iMatTimes (lv : LibV) : ConOK Tryz.prog (glb ++ lib lv) 24 sg_iMatTimes G_iMatTimes.spec := (con_iMatTimes lv).as as_iMatTimes
def sg_l5Four : Sig := { args := [.ag ζc5, .ag ζc13, .ag [.e (.var 6), .e (.var 7), .e (.var 8)], .ag [.e (.var 9), .e (.var 10), .e (.var 11)], .s (.e (.var 12))], pre := [], tin := ζc4, gin := [], res := .tu ζc23, post := [], tout := ζc4, gout := [] }
def cl_l5Four : List (Nat × Sig) := []
theorem run_l5Four : (fun H : List (Nat × List Sc) => run ⟨Tryz.prog, glb ++ H, cl_l5Four⟩ [] Tryz.f111 sg_l5Four (Tryz.f111.body.getD .skip)) = fun _ => tr_l5Four := by kernel_rfl
theorem om_l5Four (lv : LibV) : ΩOK ⟨Tryz.prog, (glb ++ lib lv), cl_l5Four⟩ (specsOf Fs_l5Four) := ΩOK_nil
theorem con_l5Four (lv : LibV) : ConOK Tryz.prog (glb ++ lib lv) 111 sg_l5Four F_l5Four.spec := conOK_tree (om_l5Four lv) mixed Tryz.func111 (by kernel_rfl) (congrFun run_l5Four (lib lv))
theorem cong_l5Four (lv : LibV) : ConOK Tryz.prog (glb ++ lib lv) 111 sg_l5Four G_l5Four.spec := (con_l5Four lv).as as_l5Four
def sg_sMatTimes : Sig := { args := [.ag ζc1, .ag ζc10], pre := [], tin := ζc26, gin := [], res := .tu ζc23, post := [], tout := ζc4, gout := [] }
def cl_sMatTimes : List (Nat × Sig) := [(92, sg_sMatValid), (126, sg_l3Inner), (111, sg_l5Four)]
theorem run_sMatTimes : (fun H : List (Nat × List Sc) => run ⟨Tryz.prog, glb ++ H, cl_sMatTimes⟩ [] Tryz.f113 sg_sMatTimes (Tryz.f113.body.getD .skip)) = fun _ => tr_sMatTimes := by kernel_rfl
theorem om_sMatTimes (lv : LibV) : ΩOK ⟨Tryz.prog, (glb ++ lib lv), cl_sMatTimes⟩ (specsOf Fs_sMatTimes) := (ΩOK_cons (cong_sMatValid lv) Tryz.call92 (ΩOK_cons (cong_l3Inner lv) Tryz.call126 (ΩOK_cons (cong_l5Four lv) Tryz.call111 ΩOK_nil)))
theorem con_sMatTimes (lv : LibV) : ConOK Tryz.prog (glb ++ lib lv) 113 sg_sMatTimes F_sMatTimes.spec := conOK_tree (om_sMatTimes lv) mixed Tryz.func113 (by kernel_rfl) (congrFun run_sMatTimes (lib lv))
theorem cong_sMatTimes (lv : LibV) : ConOK Tryz.prog (glb ++ lib lv) 113 sg_sMatTimes G_sMatTimes.spec := (con_sMatTimes lv).as as_sMatTimes
def sg_wholeM : Sig := { args := [.s ζc30], pre := [], tin := [], gin := [], res := .c (.ag [.e (.int .i64 (-1)), .e (.int .i64 (0)), .e (.int .i64 (1))]), post := [], tout := [], gout := [] }
def cl_wholeM : List (Nat × Sig) := []
theorem run_wholeM : (fun H : List (Nat × List Sc) => run ⟨Tryz.prog, glb ++ H, cl_wholeM⟩ [] Tryz.f33 sg_wholeM (Tryz.f33.body.getD .skip)) = fun _ => tr_wholeM := by kernel_rfl
theorem om_wholeM (lv : LibV) : ΩOK ⟨Tryz.prog, (glb ++ lib lv), cl_wholeM⟩ (specsOf Fs_wholeM) := ΩOK_nil
theorem con_wholeM (lv : LibV) : ConOK Tryz.prog (glb ++ lib lv) 33 sg_wholeM F_wholeM.spec := conOK_tree (om_wholeM lv) mixed Tryz.func33 (by kernel_rfl) (congrFun run_wholeM (lib lv))
def sg_l5One : Sig := { args := ζc39, pre := [], tin := ζc16, gin := [], res := .c (.ag ζc1), post := [], tout := ζc7, gout := [] }
def cl_l5One : List (Nat × Sig) := []
theorem run_l5One : (fun H : List (Nat × List Sc) => run ⟨Tryz.prog, glb ++ H, cl_l5One⟩ [] Tryz.f91 sg_l5One (Tryz.f91.body.getD .skip)) = fun _ => tr_l5One := by kernel_rfl
theorem om_l5One (lv : LibV) : ΩOK ⟨Tryz.prog, (glb ++ lib lv), cl_l5One⟩ (specsOf Fs_l5One) := ΩOK_nil
theorem con_l5One (lv : LibV) : ConOK Tryz.prog (glb ++ lib lv) 91 sg_l5One F_l5One.spec := conOK_tree (om_l5One lv) mixed Tryz.func91 (by kernel_rfl) (congrFun run_l5One (lib lv))
def sg_pick : Sig := { args := [.s ζc18, .s ζc15], pre := [⟨ζc31, 84⟩], tin := [.int .i64, .sl, .int .i64, .row .u8 1], gin := [(1, 3, 1)], res := .c ζc37, post := [⟨ζc31, 84⟩], tout := [.int .i64, .sl, .int .i64], gout := [] }
def cl_pick : List (Nat × Sig) := []
theorem run_pick : (fun H : List (Nat × List Sc) => run ⟨Tryz.prog, glb ++ H, cl_pick⟩ [] Tryz.f43 sg_pick (Tryz.f43.body.getD .skip)) = fun _ => tr_pick := by kernel_rfl
theorem om_pick (lv : LibV) : ΩOK ⟨Tryz.prog, (glb ++ lib lv), cl_pick⟩ (specsOf Fs_pick) := ΩOK_nil
theorem con_pick (lv : LibV) : ConOK Tryz.prog (glb ++ lib lv) 43 sg_pick F_pick.spec := conOK_tree (om_pick lv) mixed Tryz.func43 (by kernel_rfl) (congrFun run_pick (lib lv))
def sg_sMatAdjoint : Sig := { args := [.ag ζc1], pre := [], tin := ζc7, gin := [], res := .tu ζc23, post := [], tout := ζc4, gout := [] }
def cl_sMatAdjoint : List (Nat × Sig) := [(125, sg_sFracMirror), (111, sg_l5Four)]
theorem run_sMatAdjoint : (fun H : List (Nat × List Sc) => run ⟨Tryz.prog, glb ++ H, cl_sMatAdjoint⟩ [] Tryz.f112 sg_sMatAdjoint (Tryz.f112.body.getD .skip)) = fun _ => tr_sMatAdjoint := by kernel_rfl
theorem om_sMatAdjoint (lv : LibV) : ΩOK ⟨Tryz.prog, (glb ++ lib lv), cl_sMatAdjoint⟩ (specsOf Fs_sMatAdjoint) := (ΩOK_cons (cong_sFracMirror lv) Tryz.call125 (ΩOK_cons (cong_l5Four lv) Tryz.call111 ΩOK_nil))
theorem con_sMatAdjoint (lv : LibV) : ConOK Tryz.prog (glb ++ lib lv) 112 sg_sMatAdjoint F_sMatAdjoint.spec := conOK_tree (om_sMatAdjoint lv) mixed Tryz.func112 (by kernel_rfl) (congrFun run_sMatAdjoint (lib lv))
theorem cong_sMatAdjoint (lv : LibV) : ConOK Tryz.prog (glb ++ lib lv) 112 sg_sMatAdjoint G_sMatAdjoint.spec := (con_sMatAdjoint lv).as as_sMatAdjoint
def sg_sMatRotator : Sig := { args := ζc24, pre := [], tin := ζc38, gin := [], res := .tu ζc23, post := [], tout := ζc4, gout := [] }
def cl_sMatRotator : List (Nat × Sig) := [(84, sg_l5Direction), (111, sg_l5Four)]
theorem run_sMatRotator : (fun H : List (Nat × List Sc) => run ⟨Tryz.prog, glb ++ H, cl_sMatRotator⟩ [] Tryz.f88 sg_sMatRotator (Tryz.f88.body.getD .skip)) = fun _ => tr_sMatRotator := by kernel_rfl
theorem om_sMatRotator (lv : LibV) : ΩOK ⟨Tryz.prog, (glb ++ lib lv), cl_sMatRotator⟩ (specsOf Fs_sMatRotator) := (ΩOK_cons (cong_l5Direction lv) Tryz.call84 (ΩOK_cons (cong_l5Four lv) Tryz.call111 ΩOK_nil))
theorem con_sMatRotator (lv : LibV) : ConOK Tryz.prog (glb ++ lib lv) 88 sg_sMatRotator F_sMatRotator.spec := conOK_tree (om_sMatRotator lv) mixed Tryz.func88 (by kernel_rfl) (congrFun run_sMatRotator (lib lv))
theorem cong_sMatRotator (lv : LibV) : ConOK Tryz.prog (glb ++ lib lv) 88 sg_sMatRotator G_sMatRotator.spec := (con_sMatRotator lv).as as_sMatRotator
def sg_l5PhaseK : Sig := { args := [.s ζc15], pre := [], tin := [.int .i64], gin := [], res := .c ζc33, post := [], tout := ζc14, gout := [] }
def cl_l5PhaseK : List (Nat × Sig) := []
theorem run_l5PhaseK : (fun H : List (Nat × List Sc) => run ⟨Tryz.prog, glb ++ H, cl_l5PhaseK⟩ [] Tryz.f114 sg_l5PhaseK (Tryz.f114.body.getD .skip)) = fun _ => tr_l5PhaseK := by kernel_rfl
theorem om_l5PhaseK (lv : LibV) : ΩOK ⟨Tryz.prog, (glb ++ lib lv), cl_l5PhaseK⟩ (specsOf Fs_l5PhaseK) := ΩOK_nil
theorem con_l5PhaseK (lv : LibV) : ConOK Tryz.prog (glb ++ lib lv) 114 sg_l5PhaseK F_l5PhaseK.spec := conOK_tree (om_l5PhaseK lv) mixed Tryz.func114 (by kernel_rfl) (congrFun run_l5PhaseK (lib lv))
def sg_sMatPlate : Sig := { args := ζc27, pre := [], tin := ζc14, gin := [], res := .tu ζc23, post := [], tout := ζc4, gout := [] }
def cl_sMatPlate : List (Nat × Sig) := [(88, sg_sMatRotator), (85, sg_l6In), (112, sg_sMatAdjoint), (114, sg_l5PhaseK), (91, sg_l5One), (113, sg_sMatTimes)]
theorem run_sMatPlate : (fun H : List (Nat × List Sc) => run ⟨Tryz.prog, glb ++ H, cl_sMatPlate⟩ [] Tryz.f89 sg_sMatPlate (Tryz.f89.body.getD .skip)) = fun _ => tr_sMatPlate := by kernel_rfl
theorem om_sMatPlate (lv : LibV) : ΩOK ⟨Tryz.prog, (glb ++ lib lv), cl_sMatPlate⟩ (specsOf Fs_sMatPlate) := (ΩOK_cons (cong_sMatRotator lv) Tryz.call88 (ΩOK_cons (cong_l6In lv) Tryz.call85 (ΩOK_cons (cong_sMatAdjoint lv) Tryz.call112 (ΩOK_cons (con_l5PhaseK lv) Tryz.call114 (ΩOK_cons (con_l5One lv) Tryz.call91 (ΩOK_cons (cong_sMatTimes lv) Tryz.call113 ΩOK_nil))))))
theorem con_sMatPlate (lv : LibV) : ConOK Tryz.prog (glb ++ lib lv) 89 sg_sMatPlate SP_sMatPlate := conOK_of (om_sMatPlate lv) mixed Tryz.func89 (by kernel_rfl) (congrFun run_sMatPlate (lib lv)) (fun ins K ht h => sat_sMatPlate Tryz.prog ins K ht h)
def sg_sMatFilter : Sig := { args := ζc24, pre := [], tin := ζc38, gin := [], res := .tu ζc23, post := [], tout := ζc4, gout := [] }
def cl_sMatFilter : List (Nat × Sig) := [(84, sg_l5Direction), (95, sg_sFracTimes), (111, sg_l5Four)]
theorem run_sMatFilter : (fun H : List (Nat × List Sc) => run ⟨Tryz.prog, glb ++ H, cl_sMatFilter⟩ [] Tryz.f90 sg_sMatFilter (Tryz.f90.body.getD .skip)) = fun _ => tr_sMatFilter := by kernel_rfl
theorem om_sMatFilter (lv : LibV) : ΩOK ⟨Tryz.prog, (glb ++ lib lv), cl_sMatFilter⟩ (specsOf Fs_sMatFilter) := (ΩOK_cons (cong_l5Direction lv) Tryz.call84 (ΩOK_cons (cong_sFracTimes lv) Tryz.call95 (ΩOK_cons (cong_l5Four lv) Tryz.call111 ΩOK_nil)))
theorem con_sMatFilter (lv : LibV) : ConOK Tryz.prog (glb ++ lib lv) 90 sg_sMatFilter F_sMatFilter.spec := conOK_tree (om_sMatFilter lv) mixed Tryz.func90 (by kernel_rfl) (congrFun run_sMatFilter (lib lv))
theorem cong_sMatFilter (lv : LibV) : ConOK Tryz.prog (glb ++ lib lv) 90 sg_sMatFilter G_sMatFilter.spec := (con_sMatFilter lv).as as_sMatFilter
def sg_l6tDiag : Sig := { args := [.ag ζc5], pre := [], tin := ζc14, gin := [], res := .c (.ag ζc0), post := [], tout := ζc2, gout := [] }
def cl_l6tDiag : List (Nat × Sig) := []
theorem run_l6tDiag : (fun H : List (Nat × List Sc) => run ⟨Tryz.prog, glb ++ H, cl_l6tDiag⟩ [] Tryz.f53 sg_l6tDiag (Tryz.f53.body.getD .skip)) = fun _ => tr_l6tDiag := by kernel_rfl
theorem om_l6tDiag (lv : LibV) : ΩOK ⟨Tryz.prog, (glb ++ lib lv), cl_l6tDiag⟩ (specsOf Fs_l6tDiag) := ΩOK_nil
theorem con_l6tDiag (lv : LibV) : ConOK Tryz.prog (glb ++ lib lv) 53 sg_l6tDiag F_l6tDiag.spec := conOK_tree (om_l6tDiag lv) mixed Tryz.func53 (by kernel_rfl) (congrFun run_l6tDiag (lib lv))
def sg_l6tUnit : Sig := { args := [], pre := [], tin := [], gin := [], res := .c (.ag ζc0), post := [], tout := ζc2, gout := [] }
def cl_l6tUnit : List (Nat × Sig) := [(53, sg_l6tDiag)]
theorem run_l6tUnit : (fun H : List (Nat × List Sc) => run ⟨Tryz.prog, glb ++ H, cl_l6tUnit⟩ [] Tryz.f20 sg_l6tUnit (Tryz.f20.body.getD .skip)) = fun _ => tr_l6tUnit := by kernel_rfl
theorem om_l6tUnit (lv : LibV) : ΩOK ⟨Tryz.prog, (glb ++ lib lv), cl_l6tUnit⟩ (specsOf Fs_l6tUnit) := (ΩOK_cons (con_l6tDiag lv) Tryz.call53 ΩOK_nil)
theorem con_l6tUnit (lv : LibV) : ConOK Tryz.prog (glb ++ lib lv) 20 sg_l6tUnit F_l6tUnit.spec := conOK_tree (om_l6tUnit lv) mixed Tryz.func20 (by kernel_rfl) (congrFun run_l6tUnit (lib lv))
def sg_pickC : Sig := { args := [.s ζc18, .s ζc15], pre := [⟨ζc31, 84⟩], tin := [.int .i64, .sl, .int .i64], gin := [], res := .c ζc37, post := [⟨ζc31, 84⟩], tout := [.int .i64, .sl, .int .i64], gout := [] }
theorem con_pickC (lv : LibV) {cb : CodeB} (hk : CodeOk cb) (hG : Known cb (glb ++ lib lv ++ cb.tail)) : ConOK Tryz.prog (glb ++ lib lv ++ cb.tail) 43 sg_pickC (G_pick cb).spec := conOK_ghost (t := 84) hk hG (con_pick lv).more (ghost_pick hk)
def sg_openC : Sig := { args := [.s ζc15], pre := [], tin := [.sl], gin := [], res := .c (.s ζc18), post := [⟨ζc41, 84⟩], tout := [.sl, .int .i64], gout := [] }
set_option maxHeartbeats 800000 in
set_option maxRecDepth 1000000 in
theorem open_short (a : Option Addr) (len cap : Nat) (w : World) (hl : len ≤ 2000) :
    Calls Tryz.prog 14 #[.slice a len cap] w fun e w' => e = .returned (.pointer (some ⟨w.heap.size, 0, none⟩)) ∧ w' = w.alloc (.cells #[.slice a len cap, .int .i64 0] 84) := by
  go_enter Tryz.func14, Tryz.ntmps14
  go_wp2
  go_ret
  exact ⟨rfl, rfl⟩
set_option maxHeartbeats 800000 in
set_option maxRecDepth 1000000 in
theorem open_long (a : Addr) (len cap : Nat) (w : World) (hl : ¬ len ≤ 2000) (hc : len ≤ cap) (hm : len ≤ 1048576) :
    Calls Tryz.prog 14 #[.slice (some a) len cap] w fun e w' => e = .returned (.pointer (some ⟨w.heap.size, 0, none⟩)) ∧ w' = w.alloc (.cells #[.slice (some a) 2000 cap, .int .i64 0] 84) := by
  go_enter Tryz.func14, Tryz.ntmps14
  go_wp2
  go_ret
  exact ⟨rfl, rfl⟩
theorem con_openC (lv : LibV) {cb : CodeB} (_ : CodeOk cb) (_ : Known cb (glb ++ lib lv ++ cb.tail)) : ConOK Tryz.prog (glb ++ lib lv ++ cb.tail) 14 sg_openC (G_open cb).spec := conOK_open (t := 84) open_short open_long
def sg_iDiag : Sig := { args := ζc39, pre := [], tin := ζc16, gin := [], res := .c (.ag ζc0), post := [], tout := ζc2, gout := [] }
def cl_iDiag : List (Nat × Sig) := []
theorem run_iDiag : (fun H : List (Nat × List Sc) => run ⟨Tryz.prog, glb ++ H, cl_iDiag⟩ [] Tryz.f16 sg_iDiag (Tryz.f16.body.getD .skip)) = fun _ => tr_iDiag := by kernel_rfl
theorem om_iDiag (lv : LibV) : ΩOK ⟨Tryz.prog, (glb ++ lib lv), cl_iDiag⟩ (specsOf Fs_iDiag) := ΩOK_nil
theorem con_iDiag (lv : LibV) : ConOK Tryz.prog (glb ++ lib lv) 16 sg_iDiag F_iDiag.spec := conOK_tree (om_iDiag lv) mixed Tryz.func16 (by kernel_rfl) (congrFun run_iDiag (lib lv))
def sg_wholeK1 : Sig := { args := [.s ζc19], pre := [], tin := [], gin := [], res := .c (.ag [.e (.int .i64 (1)), .e (.int .i64 (0)), .e (.int .i64 (1))]), post := [], tout := [], gout := [] }
def cl_wholeK1 : List (Nat × Sig) := []
theorem run_wholeK1 : (fun H : List (Nat × List Sc) => run ⟨Tryz.prog, glb ++ H, cl_wholeK1⟩ [] Tryz.f33 sg_wholeK1 (Tryz.f33.body.getD .skip)) = fun _ => tr_wholeK1 := by kernel_rfl
theorem om_wholeK1 (lv : LibV) : ΩOK ⟨Tryz.prog, (glb ++ lib lv), cl_wholeK1⟩ (specsOf Fs_wholeK1) := ΩOK_nil
theorem con_wholeK1 (lv : LibV) : ConOK Tryz.prog (glb ++ lib lv) 33 sg_wholeK1 F_wholeK1.spec := conOK_tree (om_wholeK1 lv) mixed Tryz.func33 (by kernel_rfl) (congrFun run_wholeK1 (lib lv))
def sg_iFracCompare : Sig := { args := ζc39, pre := [], tin := ζc16, gin := [], res := .tu ζc24, post := [], tout := [.int .i64, .bool], gout := [] }
def cl_iFracCompare : List (Nat × Sig) := [(76, sg_realOk)]
theorem run_iFracCompare : (fun H : List (Nat × List Sc) => run ⟨Tryz.prog, glb ++ H, cl_iFracCompare⟩ [] Tryz.f41 sg_iFracCompare (Tryz.f41.body.getD .skip)) = fun _ => tr_iFracCompare := by kernel_rfl
theorem om_iFracCompare (lv : LibV) : ΩOK ⟨Tryz.prog, (glb ++ lib lv), cl_iFracCompare⟩ (specsOf Fs_iFracCompare) := (ΩOK_cons (cong_realOk lv) Tryz.call76 ΩOK_nil)
theorem con_iFracCompare (lv : LibV) : ConOK Tryz.prog (glb ++ lib lv) 41 sg_iFracCompare F_iFracCompare.spec := conOK_tree (om_iFracCompare lv) mixed Tryz.func41 (by kernel_rfl) (congrFun run_iFracCompare (lib lv))
theorem cong_iFracCompare (lv : LibV) : ConOK Tryz.prog (glb ++ lib lv) 41 sg_iFracCompare G_iFracCompare.spec := (con_iFracCompare lv).as as_iFracCompare
def sg_six : Sig := { args := [.ag ζc0], pre := [], tin := ζc2, gin := [], res := .tu ζc24, post := [], tout := [.sl, .bool, .row .i64 3], gout := [(0, 2, 3)] }
def cl_six : List (Nat × Sig) := [(33, sg_wholeK1), (33, sg_wholeM), (75, sg_iTableApply)]
theorem run_six : (fun H : List (Nat × List Sc) => run ⟨Tryz.prog, glb ++ H, cl_six⟩ [] Tryz.f39 sg_six (Tryz.f39.body.getD .skip)) = fun _ => tr_six := by kernel_rfl
theorem om_six (lv : LibV) : ΩOK ⟨Tryz.prog, (glb ++ lib lv), cl_six⟩ (specsOf Fs_six) := (ΩOK_cons (con_wholeK1 lv) Tryz.call33 (ΩOK_cons (con_wholeM lv) Tryz.call33 (ΩOK_cons (cong_iTableApply lv) Tryz.call75 ΩOK_nil)))
theorem con_six (lv : LibV) : ConOK Tryz.prog (glb ++ lib lv) 39 sg_six SP_six := conOK_of (om_six lv) mixed Tryz.func39 (by kernel_rfl) (congrFun run_six (lib lv)) (fun ins K ht h => sat_six Tryz.prog ins K ht h)
def sg_iTableKeeps : Sig := { args := [.ag ζc0], pre := [], tin := ζc2, gin := [], res := .c ζc37, post := [], tout := [.bool], gout := [] }
def cl_iTableKeeps : List (Nat × Sig) := [(39, sg_six), (41, sg_iFracCompare)]
theorem run_iTableKeeps : (fun H : List (Nat × List Sc) => run ⟨Tryz.prog, glb ++ H, cl_iTableKeeps⟩ [(0, ⟨[(18, .int .i64), (4, .bool)], [], none⟩)] Tryz.f11 sg_iTableKeeps (Tryz.f11.body.getD .skip)) = fun _ => tr_iTableKeeps := by kernel_rfl
theorem om_iTableKeeps (lv : LibV) : ΩOK ⟨Tryz.prog, (glb ++ lib lv), cl_iTableKeeps⟩ Ss_iTableKeeps := (ΩOK_consS (con_six lv) Tryz.call39 (ΩOK_consS (cong_iFracCompare lv) Tryz.call41 ΩOK_nilS))
theorem con_iTableKeeps (lv : LibV) : ConOK Tryz.prog (glb ++ lib lv) 11 sg_iTableKeeps F_iTableKeeps.spec := conOK_of (om_iTableKeeps lv) mixed Tryz.func11 (by kernel_rfl) (congrFun run_iTableKeeps (lib lv)) (fun ins K ht h => sat_iTableKeeps Tryz.prog ins K ht h.1 h.2)
def sg_greatest : Sig := { args := [.s ζc15], pre := [], tin := [.sl, .row .i64 3], gin := [(0, 1, 3)], res := .c ζc37, post := [], tout := [.int .i64], gout := [] }
def cl_greatest : List (Nat × Sig) := [(41, sg_iFracCompare)]
theorem run_greatest : (fun H : List (Nat × List Sc) => run ⟨Tryz.prog, glb ++ H, cl_greatest⟩ [(0, ⟨[(9, .int .i64), (3, .int .i64)], [], none⟩)] Tryz.f40 sg_greatest (Tryz.f40.body.getD .skip)) = fun _ => tr_greatest := by kernel_rfl
theorem om_greatest (lv : LibV) : ΩOK ⟨Tryz.prog, (glb ++ lib lv), cl_greatest⟩ (specsOf Fs_greatest) := (ΩOK_cons (cong_iFracCompare lv) Tryz.call41 ΩOK_nil)
theorem con_greatest (lv : LibV) : ConOK Tryz.prog (glb ++ lib lv) 40 sg_greatest F_greatest.spec := conOK_of (om_greatest lv) mixed Tryz.func40 (by kernel_rfl) (congrFun run_greatest (lib lv)) (fun ins K ht h => sat_greatest Tryz.prog ins K ht h.1 h.2)
def sg_iTableEnergy : Sig := { args := [.ag ζc0], pre := [], tin := ζc2, gin := [], res := .tu ζc22, post := [], tout := ζc6, gout := [] }
def cl_iTableEnergy : List (Nat × Sig) := [(39, sg_six), (40, sg_greatest)]
theorem run_iTableEnergy : (fun H : List (Nat × List Sc) => run ⟨Tryz.prog, glb ++ H, cl_iTableEnergy⟩ [] Tryz.f10 sg_iTableEnergy (Tryz.f10.body.getD .skip)) = fun _ => tr_iTableEnergy := by kernel_rfl
theorem om_iTableEnergy (lv : LibV) : ΩOK ⟨Tryz.prog, (glb ++ lib lv), cl_iTableEnergy⟩ Ss_iTableEnergy := (ΩOK_consS (con_six lv) Tryz.call39 (ΩOK_consS (con_greatest lv) Tryz.call40 ΩOK_nilS))
theorem con_iTableEnergy (lv : LibV) : ConOK Tryz.prog (glb ++ lib lv) 10 sg_iTableEnergy F_iTableEnergy.spec := conOK_of (om_iTableEnergy lv) mixed Tryz.func10 (by kernel_rfl) (congrFun run_iTableEnergy (lib lv)) (fun ins K ht h => sat_iTableEnergy Tryz.prog ins K ht h.1 h.2)
def sg_diagonal : Sig := { args := [.ag [.e (.int .i64 (1)), .e (.int .i64 (0)), .e (.int .i64 (1))], .ag ζc5], pre := [], tin := ζc14, gin := [], res := .c (.ag ζc0), post := [], tout := ζc2, gout := [] }
def cl_diagonal : List (Nat × Sig) := []
theorem run_diagonal : (fun H : List (Nat × List Sc) => run ⟨Tryz.prog, glb ++ H, cl_diagonal⟩ [] Tryz.f16 sg_diagonal (Tryz.f16.body.getD .skip)) = fun _ => tr_diagonal := by kernel_rfl
theorem om_diagonal (lv : LibV) : ΩOK ⟨Tryz.prog, (glb ++ lib lv), cl_diagonal⟩ (specsOf Fs_diagonal) := ΩOK_nil
theorem con_diagonal (lv : LibV) : ConOK Tryz.prog (glb ++ lib lv) 16 sg_diagonal F_diagonal.spec := conOK_tree (om_diagonal lv) mixed Tryz.func16 (by kernel_rfl) (congrFun run_diagonal (lib lv))
def sg_iTableFade : Sig := { args := [.ag ζc5], pre := [], tin := ζc14, gin := [], res := .tu ζc28, post := [], tout := ζc3, gout := [] }
def cl_iTableFade : List (Nat × Sig) := [(76, sg_realOk), (16, sg_diagonal)]
theorem run_iTableFade : (fun H : List (Nat × List Sc) => run ⟨Tryz.prog, glb ++ H, cl_iTableFade⟩ [] Tryz.f48 sg_iTableFade (Tryz.f48.body.getD .skip)) = fun _ => tr_iTableFade := by kernel_rfl
theorem om_iTableFade (lv : LibV) : ΩOK ⟨Tryz.prog, (glb ++ lib lv), cl_iTableFade⟩ (specsOf Fs_iTableFade) := (ΩOK_cons (cong_realOk lv) Tryz.call76 (ΩOK_cons (con_diagonal lv) Tryz.call16 ΩOK_nil))
theorem con_iTableFade (lv : LibV) : ConOK Tryz.prog (glb ++ lib lv) 48 sg_iTableFade F_iTableFade.spec := conOK_tree (om_iTableFade lv) mixed Tryz.func48 (by kernel_rfl) (congrFun run_iTableFade (lib lv))
theorem cong_iTableFade (lv : LibV) : ConOK Tryz.prog (glb ++ lib lv) 48 sg_iTableFade G_iTableFade.spec := (con_iTableFade lv).as as_iTableFade
def sg_sTableFade : Sig := { args := [.ag ζc5], pre := [], tin := ζc14, gin := [], res := .tu ζc28, post := [], tout := ζc3, gout := [] }
def cl_sTableFade : List (Nat × Sig) := [(86, sg_sFracValid), (53, sg_l6tDiag)]
theorem run_sTableFade : (fun H : List (Nat × List Sc) => run ⟨Tryz.prog, glb ++ H, cl_sTableFade⟩ [] Tryz.f54 sg_sTableFade (Tryz.f54.body.getD .skip)) = fun _ => tr_sTableFade := by kernel_rfl
theorem om_sTableFade (lv : LibV) : ΩOK ⟨Tryz.prog, (glb ++ lib lv), cl_sTableFade⟩ (specsOf Fs_sTableFade) := (ΩOK_cons (cong_sFracValid lv) Tryz.call86 (ΩOK_cons (con_l6tDiag lv) Tryz.call53 ΩOK_nil))
theorem con_sTableFade (lv : LibV) : ConOK Tryz.prog (glb ++ lib lv) 54 sg_sTableFade F_sTableFade.spec := conOK_tree (om_sTableFade lv) mixed Tryz.func54 (by kernel_rfl) (congrFun run_sTableFade (lib lv))
theorem cong_sTableFade (lv : LibV) : ConOK Tryz.prog (glb ++ lib lv) 54 sg_sTableFade G_sTableFade.spec := (con_sTableFade lv).as as_sTableFade
def sg_Split : Sig := { args := ζc24, pre := [], tin := [.str, .str], gin := [], res := .c ζc37, post := [], tout := [.sl, .rowC [.str]], gout := [(0, 1, 1)] }
theorem con_Split (lv : LibV) : ConOK Tryz.prog (glb ++ lib lv) 46 sg_Split SP_Split :=
  conOK_split (t := 9) fun s sep w hg hs h1 => Tryz.strings_Split s sep lv.m w hs (glb_first (g := 4) (x := .int .i64 lv.m) hg rfl) h1
def sg_plainNumber : Sig := { args := [.s ζc15], pre := [], tin := [.str], gin := [], res := .tu ζc24, post := [], tout := [.int .i64, .bool], gout := [] }
theorem num_tab (lv : LibV) {w : World} (hg : GlbOk (glb ++ lib lv) w) : Lib.TabIs Tryz.prog w "internal/strconv.uint64pow10" .u64 Lib.pow10Tab := tab_var (g := 9) (zs := Lib.pow10Tab) hg (by kernel_rfl) (by decide) (by kernel_rfl)
set_option maxHeartbeats 800000 in
set_option maxRecDepth 1000000 in
theorem number_walk (lv : LibV) (l : List UInt8) (w : World) (hg : GlbOk (glb ++ lib lv) w) (hl : l.length ≤ 2097152) :
    Calls Tryz.prog 80 #[bv l] w fun e w' => ∃ z b, e = .returned (.tuple #[.int .i64 z, .bool b]) ∧ I64 z ∧ (match num l with
      | some n => z = n ∧ b = true
      | none => b = false) ∧ RowKit.Below w.heap.size w w' := by
  have hsz : (⟨l.toArray⟩ : ByteArray).size = l.length := size_bv l
  have htab := num_tab lv hg
  have he1 : w.cell? ⟨7, 0, none⟩ = some lv.es := glb_first (x := .val lv.es) hg rfl
  have he2 : w.cell? ⟨8, 0, none⟩ = some lv.er := glb_first (x := .val lv.er) hg rfl
  unfold bv
  cases h : Lib.atoiAll l with
  | ok v =>
    obtain ⟨v0, v1⟩ := Lib.atoiAll_bounds h
    have hn : num l = if Lib.itoa v = l then some v else none := by unfold num; rw [h]
    rw [hn]
    have hB : ∀ W1, (W1 = w ∨ ∃ t, W1 = Lib.bytesWorld w 5 t) → Below w.heap.size w W1 := by
      rintro W1 (rfl | ⟨t, rfl⟩)
      · exact Below.refl _ _
      · exact Lib.bytesWorld_below w _ t
    have hT : ∀ W1, (W1 = w ∨ ∃ t, W1 = Lib.bytesWorld w 5 t) → Lib.TabIs Tryz.prog W1 "internal/strconv.uint64pow10" .u64 Lib.pow10Tab := fun W1 h1 => var_below (hB W1 h1) htab
    go_enter Tryz.func80, Tryz.ntmps80
    go_wp2_with (first | (go_at_call 106; refine (Tryz.strconv_Atoi_ok ⟨l.toArray⟩ (by rw [hsz]; omega) v h _).mono ?_; rintro e W1 ⟨rfl, hW⟩) | (go_at_call 107; refine (Tryz.strconv_Itoa v v0 v1 _ (hT _ hW)).mono ?_; rintro e W2 ⟨rfl, k, os, hW2⟩))
    · go_ret2
      exact ⟨v, rfl, ⟨v0, v1⟩, rfl, (hB _ hW).trans ((below_grow W1 k os).mono (hB _ hW).size)⟩
    · have hf : (Lib.itoa v == l) = false := by rw [beq_eq_false_iff_ne]; assumption
      rw [hf]
      go_ret2
      exact ⟨v, rfl, ⟨v0, v1⟩, (hB _ hW).trans ((below_grow W1 k os).mono (hB _ hW).size)⟩
  | «syntax» =>
    have hn : num l = none := by unfold num; rw [h]
    rw [hn]
    go_enter Tryz.func80, Tryz.ntmps80
    go_wp2_with (first | (go_at_call 106; refine (Tryz.strconv_Atoi_syntax ⟨l.toArray⟩ (by rw [hsz]; omega) h lv.es _ he1 lv.okS).mono ?_; rintro e W1 ⟨N, rfl, hN1, hN2, hB⟩) | (go_at_call 107; fail))
    go_ret2
    exact ⟨0, false, rfl, by unfold I64; omega, rfl, hB⟩
  | range =>
    have hn : num l = none := by unfold num; rw [h]
    rw [hn]
    go_enter Tryz.func80, Tryz.ntmps80
    go_wp2_with (first | (go_at_call 106; refine (Tryz.strconv_Atoi_range ⟨l.toArray⟩ (by rw [hsz]; omega) h lv.er _ he2 lv.okR).mono ?_; rintro e W1 ⟨N, rfl, hN1, hN2, hB⟩) | (go_at_call 107; fail))
    go_ret2
    exact ⟨_, false, rfl, by unfold I64 Lib.atoiSat; split <;> omega, rfl, hB⟩
theorem con_plainNumber (lv : LibV) : ConOK Tryz.prog (glb ++ lib lv) 80 sg_plainNumber SP_plainNumber := conOK_num (number_walk lv)
def sg_l6Dec : Sig := { args := [.s ζc15], pre := [], tin := [.int .i64], gin := [], res := .c ζc37, post := [], tout := [.str], gout := [] }
theorem dec_conv (w : World) (t : TypeId) (x : Int) (fr : Nat × Nat) (g : Nat) (hg : g = w.heap.size) :
    (convert 22 9 (.slice (some ⟨g, 0, none⟩) 1 1)).run Tryz.prog (w.alloc (.cells #[.int .u8 x] t fr)) = .ok (.string ⟨#[UInt8.ofNat x.toNat]⟩) (w.alloc (.cells #[.int .u8 x] t fr)) := by
  subst hg
  have h := run_convert_bytes_arg (P := Tryz.prog) (w.alloc (.cells #[.int .u8 x] t fr)) 22 5 Tryz.underlying22 Tryz.underlying5 w.heap.size 0 1 1 [x] rfl (fun i hi => by
    have : i = 0 := by omega
    subst this
    rw [World.cell?_alloc_mark]
    rfl) 9 Tryz.underlying9
  exact h
theorem dec_conv_drew (w : World) (t : TypeId) (x : Int) (g : Nat) (hg : g = w.heap.size) :
    (convert 22 9 (.slice (some ⟨g, 0, none⟩) 1 1)).run Tryz.prog (w.alloc (.cells #[.int .u8 x] t)).drew = .ok (.string ⟨#[UInt8.ofNat x.toNat]⟩) (w.alloc (.cells #[.int .u8 x] t)).drew := by
  subst hg
  exact run_convert_bytes_arg (P := Tryz.prog) _ 22 5 Tryz.underlying22 Tryz.underlying5 w.heap.size 0 1 1 [x] rfl (fun i hi => by
    have : i = 0 := by omega
    subst this
    show (w.alloc _).cell? _ = _
    rw [World.cell?_alloc_mark]
    rfl) 9 Tryz.underlying9
theorem dec_conv_later {w W : World} {t : TypeId} {x : Int} (hb : RowKit.Below (w.alloc (.cells #[.int .u8 x] t)).drew.heap.size (w.alloc (.cells #[.int .u8 x] t)).drew W) (g : Nat) (hg : g = w.heap.size) :
    (convert 22 9 (.slice (some ⟨g, 0, none⟩) 1 1)).run Tryz.prog W = .ok (.string ⟨#[UInt8.ofNat x.toNat]⟩) W := by
  subst hg
  exact run_convert_bytes_arg (P := Tryz.prog) W 22 5 Tryz.underlying22 Tryz.underlying5 w.heap.size 0 1 1 [x] rfl (fun i hi => by
    have : i = 0 := by omega
    subst this
    rw [hb.cell (by show w.heap.size < (w.alloc _).heap.size; rw [World.size_alloc]; exact Nat.lt_succ_self _)]
    show (w.alloc _).cell? _ = _
    rw [World.cell?_alloc_mark]
    rfl) 9 Tryz.underlying9
theorem dec_one {n : Int} (h0 : 0 ≤ n) (h1 : n < 10) : Lib.itoa n = [UInt8.ofNat (48 + n).toNat] := by
  obtain ⟨u, rfl⟩ := Int.eq_ofNat_of_zero_le h0
  rw [Lib.itoa_nonneg, Lib.decDigits_one (by omega)]
  congr 2
theorem dec_step {n : Int} (h0 : 10 ≤ n) : Lib.itoa n = Lib.itoa (n / 10) ++ [UInt8.ofNat (48 + n % 10).toNat] := by
  obtain ⟨u, rfl⟩ := Int.eq_ofNat_of_zero_le (show 0 ≤ n by omega)
  have e : ((u : Int) / 10) = ((u / 10 : Nat) : Int) := by omega
  rw [e, Lib.itoa_nonneg, Lib.itoa_nonneg, Lib.decDigits, dif_neg (by omega)]
  congr 3
theorem dec_minus {n : Int} (h1 : n < 0) : Lib.itoa n = 45 :: Lib.itoa (-n) := by
  obtain ⟨u, hu⟩ := Int.eq_ofNat_of_zero_le (show 0 ≤ -n by omega)
  have e : n = -(u : Int) := by omega
  subst e
  rw [Lib.itoa_neg u (by omega), Int.neg_neg, Lib.itoa_nonneg]
theorem dec_b1 {w W1 : World} (h : RowKit.Below w.drew.heap.size w.drew W1) (o : Obj) : RowKit.Below w.heap.size w (W1.alloc o) :=
  RowKit.Below.alloc (((RowKit.Below.refl _ w).drew).trans h) h.size o
theorem dec_b2 {w W1 : World} {o : Obj} (h : RowKit.Below (w.alloc o).drew.heap.size (w.alloc o).drew W1) : RowKit.Below w.heap.size w W1 :=
  (((RowKit.Below.refl _ w).alloc (Nat.le_refl _) o).drew).trans (h.mono (by show w.heap.size ≤ (w.alloc o).heap.size; rw [World.size_alloc]; omega))
theorem dec_app (a b : List UInt8) : (⟨a.toArray⟩ ++ ⟨b.toArray⟩ : ByteArray) = ⟨(a ++ b).toArray⟩ := by
  apply ByteArray.ext
  simp
set_option maxHeartbeats 800000 in
set_option maxRecDepth 1000000 in
theorem dec_small (n : Int) (w : World) (h0 : 0 ≤ n) (h1 : n < 10) : Calls Tryz.prog 78 #[.int .i64 n] w fun e w' => e = .returned (bv (Lib.itoa n)) ∧ RowKit.Below w.heap.size w w' := by
  have hA : ¬ n < -9223372036854775807 := by omega
  have hB : ¬ n < 0 := by omega
  have hcv := dec_conv
  have hcv2 := dec_conv_drew
  have hw := dec_one h0 h1
  go_enter Tryz.func78, Tryz.ntmps78
  go_wp2_with (first | (go_at_call 78; fail))
  all_goals go_ret
  all_goals exact ⟨rfl, RowKit.Below.alloc (RowKit.Below.refl _ _) (Nat.le_refl _) _⟩
set_option maxHeartbeats 3200000 in
set_option maxRecDepth 1000000 in
theorem dec_big (n : Int) (w : World) (h0 : 10 ≤ n) (h1 : n ≤ 9223372036854775807) (l : List UInt8) (hl : l.length ≤ 21) (ih : ∀ w, Calls Tryz.prog 78 #[.int .i64 (n / 10)] w fun e w' => e = .returned (.string ⟨l.toArray⟩) ∧ RowKit.Below w.heap.size w w') : Calls Tryz.prog 78 #[.int .i64 n] w fun e w' => e = .returned (.string ⟨(l ++ [UInt8.ofNat (48 + n % 10).toNat]).toArray⟩) ∧ RowKit.Below w.heap.size w w' := by
  have hA : ¬ n < -9223372036854775807 := by omega
  have hB : ¬ n < 0 := by omega
  have hC : ¬ n < 10 := by omega
  have hD : n.tdiv 10 = n / 10 := Int.tdiv_eq_ediv_of_nonneg (by omega)
  have hM : n.tmod 10 = n % 10 := Int.tmod_eq_emod_of_nonneg (by omega)
  have hL : ¬ 9223372036854775807 < l.length + 1 := by omega
  have hW1 : IntKind.i64.wrap (n / 10) = n / 10 := by apply wrap_of_range <;> simp only [IntKind.min, IntKind.max, IntKind.signed, IntKind.bits] <;> simp <;> omega
  have hW2 : IntKind.i64.wrap (48 + n % 10) = 48 + n % 10 := by apply wrap_of_range <;> simp only [IntKind.min, IntKind.max, IntKind.signed, IntKind.bits] <;> simp <;> omega
  have hW3 : IntKind.u8.wrap (48 + n % 10) = 48 + n % 10 := by apply wrap_of_range <;> simp only [IntKind.min, IntKind.max, IntKind.signed, IntKind.bits] <;> simp <;> omega
  have hcv := dec_conv
  have hcv2 := dec_conv_drew
  go_enter Tryz.func78, Tryz.ntmps78
  go_wp2_with (first | (go_at_call 78; fail))
  all_goals (go_region_with ((go_at_call 78; refine (ih _).mono ?_; rintro e W1 ⟨rfl, hb1⟩; try have hk : (convert 22 9 (.slice (some ⟨w.heap.size, 0, none⟩) 1 1)).run Tryz.prog W1 = _ := dec_conv_later hb1 _ rfl)))
  all_goals go_wp2
  all_goals go_ret
  all_goals refine ⟨congrArg (fun s => Ending.returned (.string s)) (dec_app l [UInt8.ofNat (48 + n % 10).toNat]), ?_⟩
  · exact dec_b1 hb1 _
  · exact dec_b2 hb1
  · exact dec_b2 hb1
set_option maxHeartbeats 800000 in
set_option maxRecDepth 1000000 in
theorem dec_neg (n : Int) (w : World) (h0 : -9223372036854775807 ≤ n) (h1 : n < 0) (hl : (Lib.itoa (-n)).length ≤ 21) (ih : ∀ w, Calls Tryz.prog 78 #[.int .i64 (-n)] w fun e w' => e = .returned (.string ⟨(Lib.itoa (-n)).toArray⟩) ∧ RowKit.Below w.heap.size w w') : Calls Tryz.prog 78 #[.int .i64 n] w fun e w' => e = .returned (bv (45 :: Lib.itoa (-n))) ∧ RowKit.Below w.heap.size w w' := by
  have hA : ¬ n < -9223372036854775807 := by omega
  have hB : n < 0 := h1
  have hL : ¬ 9223372036854775807 < 1 + (Lib.itoa (-n)).length := by omega
  unfold bv
  go_enter Tryz.func78, Tryz.ntmps78
  go_wp2_with (first | (go_at_call 78; refine (ih _).mono ?_; rintro e W1 ⟨rfl, hb1⟩))
  all_goals go_ret
  all_goals exact ⟨by congr 2, hb1⟩
set_option maxHeartbeats 800000 in
set_option maxRecDepth 1000000 in
theorem dec_least (w : World) : Calls Tryz.prog 78 #[.int .i64 (-9223372036854775808)] w fun e w' => e = .returned (bv (Lib.itoa (-9223372036854775808))) ∧ RowKit.Below w.heap.size w w' := by
  have hw : Lib.itoa (-9223372036854775808) = "-9223372036854775808".toUTF8.data.toList := by decide +kernel
  rw [hw]
  go_enter Tryz.func78, Tryz.ntmps78
  go_wp2_with (first | (go_at_call 78; fail))
  all_goals go_ret
  all_goals exact ⟨rfl, RowKit.Below.refl _ _⟩
theorem dec_pos : ∀ (b : Nat) (n : Int) (w : World), 0 ≤ n → n ≤ 9223372036854775807 → n ≤ b → Calls Tryz.prog 78 #[.int .i64 n] w fun e w' => e = .returned (bv (Lib.itoa n)) ∧ RowKit.Below w.heap.size w w'
  | b, n, w, h0, h1, hb => by
    by_cases h : n < 10
    · exact dec_small n w h0 h
    · cases b with
      | zero => exact absurd hb (by omega)
      | succ b =>
        refine (dec_big n w (by omega) h1 (Lib.itoa (n / 10)) (Lib.itoa_length_le _ (by omega) (by omega)) fun w' => dec_pos b (n / 10) w' (by omega) (by omega) (by omega)).mono ?_
        rintro e w' ⟨rfl, hB⟩
        refine ⟨?_, hB⟩
        rw [dec_step (n := n) (by omega)]
        rfl
theorem dec_walk (n : Int) (w : World) (h0 : -9223372036854775808 ≤ n) (h1 : n ≤ 9223372036854775807) : Calls Tryz.prog 78 #[.int .i64 n] w fun e w' => e = .returned (bv (Lib.itoa n)) ∧ RowKit.Below w.heap.size w w' := by
  by_cases hp : 0 ≤ n
  · exact dec_pos n.toNat n w hp h1 (by omega)
  · by_cases hm : n = -9223372036854775808
    · subst hm; exact dec_least w
    · rw [dec_minus (by omega)]
      exact dec_neg n w (by omega) (by omega) (Lib.itoa_length_le _ (by omega) (by omega)) fun w' => dec_pos (-n).toNat (-n) w' (by omega) (by omega) (by omega)
theorem con_l6Dec (lv : LibV) : ConOK Tryz.prog (glb ++ lib lv) 78 sg_l6Dec SP_l6Dec := conOK_itoa fun n w _ h0 h1 => dec_walk n w h0 h1
def sg_l7Cut : Sig := { args := ζc24, pre := [], tin := [.str, .int .u8], gin := [], res := .c ζc37, post := [], tout := [.sl, .rowC [.str]], gout := [(0, 1, 1)] }
def cl_l7Cut : List (Nat × Sig) := []
theorem run_l7Cut : (fun H : List (Nat × List Sc) => run ⟨Tryz.prog, glb ++ H, cl_l7Cut⟩ [(0, ⟨[(7, .int .i64), (6, .int .i64), (5, .sl)], [], some (2, .rowC [.str], 1, 9)⟩)] Tryz.f51 sg_l7Cut (Tryz.f51.body.getD .skip)) = fun _ => tr_l7Cut := by kernel_rfl
theorem om_l7Cut (lv : LibV) : ΩOK ⟨Tryz.prog, (glb ++ lib lv), cl_l7Cut⟩ (specsOf Fs_l7Cut) := ΩOK_nil
theorem con_l7Cut (lv : LibV) : ConOK Tryz.prog (glb ++ lib lv) 51 sg_l7Cut SP_l7Cut := conOK_of (om_l7Cut lv) mixed Tryz.func51 (by kernel_rfl) (congrFun run_l7Cut (lib lv)) (fun ins K ht h => sat_l7Cut Tryz.prog ins K ht h)
def sg_l7Number : Sig := { args := [.s ζc15], pre := [], tin := [.str], gin := [], res := .tu ζc24, post := [], tout := [.int .i64, .bool], gout := [] }
def cl_l7Number : List (Nat × Sig) := [(85, sg_l6In), (78, sg_l6Dec)]
theorem run_l7Number : (fun H : List (Nat × List Sc) => run ⟨Tryz.prog, glb ++ H, cl_l7Number⟩ [(0, ⟨[(6, .int .i64), (5, .int .i64), (4, .int .i64)], [], none⟩)] Tryz.f83 sg_l7Number (Tryz.f83.body.getD .skip)) = fun _ => tr_l7Number := by kernel_rfl
theorem om_l7Number (lv : LibV) : ΩOK ⟨Tryz.prog, (glb ++ lib lv), cl_l7Number⟩ Ss_l7Number := (ΩOK_consS (cong_l6In lv) Tryz.call85 (ΩOK_consS (con_l6Dec lv) Tryz.call78 ΩOK_nilS))
theorem con_l7Number (lv : LibV) : ConOK Tryz.prog (glb ++ lib lv) 83 sg_l7Number SP_l7Number := conOK_of (om_l7Number lv) mixed Tryz.func83 (by kernel_rfl) (congrFun run_l7Number (lib lv)) (fun ins K ht h => sat_l7Number Tryz.prog ins K ht h)
def sg_l7One : Sig := { args := [.s ζc15], pre := [], tin := [.str], gin := [], res := .tu [.ag ζc41, .s (.e (.var 2))], post := [], tout := [.int .u8, .sl, .bool, .row .i64 1], gout := [(1, 3, 1)] }
def cl_l7One : List (Nat × Sig) := [(51, sg_l7Cut), (83, sg_l7Number), (84, sg_l5Direction), (85, sg_l6In)]
theorem run_l7One : (fun H : List (Nat × List Sc) => run ⟨Tryz.prog, glb ++ H, cl_l7One⟩ [(0, ⟨[(6, .int .i64)], [(1, 1, .sl)], some (1, .row .i64 1, 1, 3)⟩)] Tryz.f52 sg_l7One (Tryz.f52.body.getD .skip)) = fun _ => tr_l7One := by kernel_rfl
theorem om_l7One (lv : LibV) : ΩOK ⟨Tryz.prog, (glb ++ lib lv), cl_l7One⟩ Ss_l7One := (ΩOK_consS (con_l7Cut lv) Tryz.call51 (ΩOK_consS (con_l7Number lv) Tryz.call83 (ΩOK_consS (cong_l5Direction lv) Tryz.call84 (ΩOK_consS (cong_l6In lv) Tryz.call85 ΩOK_nilS))))
theorem con_l7One (lv : LibV) : ConOK Tryz.prog (glb ++ lib lv) 52 sg_l7One SP_l7One := conOK_of (om_l7One lv) mixed Tryz.func52 (by kernel_rfl) (congrFun run_l7One (lib lv)) (fun ins K ht h => sat_l7One Tryz.prog ins K ht h)
def sg_l7Bench : Sig := { args := [.s ζc15], pre := [], tin := [.str], gin := [], res := .tu ζc24, post := [], tout := [.sl, .bool, .rowC [.int .u8, .fat .i64 1]], gout := [(0, 2, 2)] }
def cl_l7Bench : List (Nat × Sig) := [(51, sg_l7Cut), (52, sg_l7One)]
theorem run_l7Bench : (fun H : List (Nat × List Sc) => run ⟨Tryz.prog, glb ++ H, cl_l7Bench⟩ [(0, ⟨[(6, .int .i64), (4, .sl)], [], some (1, .rowC [.int .u8, .fat .i64 1], 2, 61)⟩)] Tryz.f19 sg_l7Bench (Tryz.f19.body.getD .skip)) = fun _ => tr_l7Bench := by kernel_rfl
theorem om_l7Bench (lv : LibV) : ΩOK ⟨Tryz.prog, (glb ++ lib lv), cl_l7Bench⟩ Ss_l7Bench := (ΩOK_consS (con_l7Cut lv) Tryz.call51 (ΩOK_consS (con_l7One lv) Tryz.call52 ΩOK_nilS))
theorem con_l7Bench (lv : LibV) : ConOK Tryz.prog (glb ++ lib lv) 19 sg_l7Bench SP_l7Bench := conOK_of (om_l7Bench lv) mixed Tryz.func19 (by kernel_rfl) (congrFun run_l7Bench (lib lv)) (fun ins K ht h => sat_l7Bench Tryz.prog ins K ht h)
def sg_readPiece : Sig := { args := [.s ζc15], pre := [], tin := [.str], gin := [], res := .tu ζc22, post := [], tout := [.int .u8, .sl, .str, .bool, .row .i64 1], gout := [(1, 4, 1)] }
def cl_readPiece : List (Nat × Sig) := [(46, sg_Split), (80, sg_plainNumber), (81, sg_direction), (82, sg_within)]
theorem run_readPiece : (fun H : List (Nat × List Sc) => run ⟨Tryz.prog, glb ++ H, cl_readPiece⟩ [(0, ⟨[(25, .int .i64)], [(1, 1, .sl)], some (1, .row .i64 1, 1, 3)⟩)] Tryz.f47 sg_readPiece (Tryz.f47.body.getD .skip)) = fun _ => tr_readPiece := by kernel_rfl
theorem om_readPiece (lv : LibV) : ΩOK ⟨Tryz.prog, (glb ++ lib lv), cl_readPiece⟩ Ss_readPiece := (ΩOK_consS (con_Split lv) Tryz.call46 (ΩOK_consS (con_plainNumber lv) Tryz.call80 (ΩOK_consS (cong_direction lv) Tryz.call81 (ΩOK_consS (cong_within lv) Tryz.call82 ΩOK_nilS))))
theorem con_readPiece (lv : LibV) : ConOK Tryz.prog (glb ++ lib lv) 47 sg_readPiece SP_readPiece := conOK_of (om_readPiece lv) mixed Tryz.func47 (by kernel_rfl) (congrFun run_readPiece (lib lv)) (fun ins K ht h => sat_readPiece Tryz.prog ins K ht h)
def sg_readBench : Sig := { args := [.s ζc15], pre := [], tin := [.str], gin := [], res := .tu ζc24, post := [], tout := [.sl, .bool, .rowC [.int .u8, .fat .i64 1, .str]], gout := [(0, 2, 3)], gown := some (0, 2, 3, 52) }
def cl_readBench : List (Nat × Sig) := [(46, sg_Split), (47, sg_readPiece)]
theorem run_readBench : (fun H : List (Nat × List Sc) => run ⟨Tryz.prog, glb ++ H, cl_readBench⟩ [(0, ⟨[(16, .int .i64), (4, .sl)], [], some (1, .rowC [.int .u8, .fat .i64 1, .str], 3, 52)⟩)] Tryz.f15 sg_readBench (Tryz.f15.body.getD .skip)) = fun _ => tr_readBench := by kernel_rfl
theorem om_readBench (lv : LibV) : ΩOK ⟨Tryz.prog, (glb ++ lib lv), cl_readBench⟩ Ss_readBench := (ΩOK_consS (con_Split lv) Tryz.call46 (ΩOK_consS (con_readPiece lv) Tryz.call47 ΩOK_nilS))
theorem con_readBench (lv : LibV) : ConOK Tryz.prog (glb ++ lib lv) 15 sg_readBench SP_readBench := conOK_of (om_readBench lv) mixed Tryz.func15 (by kernel_rfl) (congrFun run_readBench (lib lv)) (fun ins K ht h => sat_readBench Tryz.prog ins K ht h)
def sg_ofG : Sig := { args := [.s ζc18, .s ζc15], pre := [⟨ζc31, 84⟩], tin := [.sl, .sl, .int .i64, .rowC [.str]], gin := [(0, 3, 1)], res := .c ζc37, post := [⟨ζc31, 84⟩], tout := [.str, .sl, .int .i64], gout := [] }
def cl_ofG : List (Nat × Sig) := [(43, sg_pickC)]
theorem run_ofG : (fun H : List (Nat × List Sc) => run ⟨Tryz.prog, glb ++ H, cl_ofG⟩ [] Tryz.f45 sg_ofG (Tryz.f45.body.getD .skip)) = fun _ => tr_ofG := by kernel_rfl
theorem om_ofG (lv : LibV) {cb : CodeB} (hk : CodeOk cb) (hG : Known cb (glb ++ lib lv ++ cb.tail)) : ΩOK ⟨Tryz.prog, glb ++ lib lv ++ cb.tail, cl_ofG⟩ (Ss_ofG cb) := (ΩOK_consS (con_pickC lv hk hG) Tryz.call43 ΩOK_nilS)
theorem con_ofG (lv : LibV) {cb : CodeB} (hk : CodeOk cb) (hG : Known cb (glb ++ lib lv ++ cb.tail)) : ConOK Tryz.prog (glb ++ lib lv ++ cb.tail) 45 sg_ofG (SP_ofG cb) := conOK_of (om_ofG lv hk hG) mixed Tryz.func45 (by kernel_rfl) (congrFun run_ofG (lib lv ++ cb.tail)) (fun ins K ht h => sat_ofG Tryz.prog cb hk ins K ht h)
def sg_ofC : Sig := { args := [.s ζc18, .s (.sl (.own 1) 0 8 8)], pre := [⟨ζc41, 84⟩, ⟨[.e (.var 2), .e (.var 3), .e (.var 4), .e (.var 5), .e (.var 6), .e (.var 7), .e (.var 8), .e (.var 9)], 9⟩], tin := [.sl, .int .i64, .str, .str, .str, .str, .str, .str, .str, .str], gin := [], res := .c ζc37, post := [⟨ζc31, 84⟩, ⟨[.e (.var 3), .e (.var 4), .e (.var 5), .e (.var 6), .e (.var 7), .e (.var 8), .e (.var 9), .e (.var 10)], 9⟩], tout := [.str, .sl, .int .i64, .str, .str, .str, .str, .str, .str, .str, .str], gout := [] }
theorem con_ofC (lv : LibV) {cb : CodeB} (hk : CodeOk cb) (hG : Known cb (glb ++ lib lv ++ cb.tail)) : ConOK Tryz.prog (glb ++ lib lv ++ cb.tail) 45 sg_ofC (SP_ofC cb) := conOK_of8d (t := 84) (ts := 9) (con_ofG lv hk hG)
def sg_l92Piece : Sig := { args := [.s ζc18, .s ζc15], pre := [⟨ζc31, 84⟩], tin := [.bool, .sl, .int .i64], gin := [], res := .c ζc37, post := [⟨ζc31, 84⟩], tout := [.str, .sl, .int .i64], gout := [] }
def cl_l92Piece : List (Nat × Sig) := [(43, sg_pickC), (78, sg_l6Dec)]
theorem run_l92Piece : (fun H : List (Nat × List Sc) => run ⟨Tryz.prog, glb ++ H, cl_l92Piece⟩ [] Tryz.f44 sg_l92Piece (Tryz.f44.body.getD .skip)) = fun _ => tr_l92Piece := by kernel_rfl
theorem om_l92Piece (lv : LibV) {cb : CodeB} (hk : CodeOk cb) (hG : Known cb (glb ++ lib lv ++ cb.tail)) : ΩOK ⟨Tryz.prog, glb ++ lib lv ++ cb.tail, cl_l92Piece⟩ (Ss_l92Piece cb) := (ΩOK_consS (con_pickC lv hk hG) Tryz.call43 (ΩOK_consS (con_l6Dec lv).more Tryz.call78 ΩOK_nilS))
theorem con_l92Piece (lv : LibV) {cb : CodeB} (hk : CodeOk cb) (hG : Known cb (glb ++ lib lv ++ cb.tail)) : ConOK Tryz.prog (glb ++ lib lv ++ cb.tail) 44 sg_l92Piece (SP_l92Piece cb) := conOK_of (om_l92Piece lv hk hG) mixed Tryz.func44 (by kernel_rfl) (congrFun run_l92Piece (lib lv ++ cb.tail)) (fun ins K ht h => sat_l92Piece Tryz.prog cb hk ins K ht h)
def sg_l92Bench : Sig := { args := [.s ζc18, .s ζc15], pre := [⟨ζc31, 84⟩], tin := [.bool, .sl, .int .i64], gin := [], res := .c ζc37, post := [⟨ζc31, 84⟩], tout := [.str, .sl, .int .i64], gout := [] }
def cl_l92Bench : List (Nat × Sig) := [(43, sg_pickC), (44, sg_l92Piece), (45, sg_ofC)]
theorem run_l92Bench : (fun H : List (Nat × List Sc) => run ⟨Tryz.prog, glb ++ H, cl_l92Bench⟩ [(0, ⟨[(7, .int .i64), (5, .str)], [(0, 0, .sl), (0, 1, .int .i64)], none⟩)] Tryz.f13 sg_l92Bench (Tryz.f13.body.getD .skip)) = fun _ => tr_l92Bench := by kernel_rfl
theorem om_l92Bench (lv : LibV) {cb : CodeB} (hk : CodeOk cb) (hG : Known cb (glb ++ lib lv ++ cb.tail)) : ΩOK ⟨Tryz.prog, glb ++ lib lv ++ cb.tail, cl_l92Bench⟩ (Ss_l92Bench cb) := (ΩOK_consS (con_pickC lv hk hG) Tryz.call43 (ΩOK_consS (con_l92Piece lv hk hG) Tryz.call44 (ΩOK_consS (con_ofC lv hk hG) Tryz.call45 ΩOK_nilS)))
theorem con_l92Bench (lv : LibV) {cb : CodeB} (hk : CodeOk cb) (hG : Known cb (glb ++ lib lv ++ cb.tail)) : ConOK Tryz.prog (glb ++ lib lv ++ cb.tail) 13 sg_l92Bench (SP_l92Bench cb) := conOK_of (om_l92Bench lv hk hG) mixed Tryz.func13 (by kernel_rfl) (congrFun run_l92Bench (lib lv ++ cb.tail)) (fun ins K ht h => sat_l92Bench Tryz.prog cb hk ins K ht h)
def sg_opposite : Sig := { args := [.ag ζc5], pre := [], tin := ζc14, gin := [], res := .c ζc33, post := [], tout := ζc14, gout := [] }
def cl_opposite : List (Nat × Sig) := []
theorem run_opposite : (fun H : List (Nat × List Sc) => run ⟨Tryz.prog, glb ++ H, cl_opposite⟩ [] Tryz.f97 sg_opposite (Tryz.f97.body.getD .skip)) = fun _ => tr_opposite := by kernel_rfl
theorem om_opposite (lv : LibV) : ΩOK ⟨Tryz.prog, (glb ++ lib lv), cl_opposite⟩ (specsOf Fs_opposite) := ΩOK_nil
theorem con_opposite (lv : LibV) : ConOK Tryz.prog (glb ++ lib lv) 97 sg_opposite F_opposite.spec := conOK_tree (om_opposite lv) mixed Tryz.func97 (by kernel_rfl) (congrFun run_opposite (lib lv))
def sg_iMatRotator : Sig := { args := ζc24, pre := [], tin := ζc38, gin := [], res := .tu ζc23, post := [], tout := ζc4, gout := [] }
def cl_iMatRotator : List (Nat × Sig) := [(81, sg_direction), (97, sg_opposite)]
theorem run_iMatRotator : (fun H : List (Nat × List Sc) => run ⟨Tryz.prog, glb ++ H, cl_iMatRotator⟩ [] Tryz.f61 sg_iMatRotator (Tryz.f61.body.getD .skip)) = fun _ => tr_iMatRotator := by kernel_rfl
theorem om_iMatRotator (lv : LibV) : ΩOK ⟨Tryz.prog, (glb ++ lib lv), cl_iMatRotator⟩ (specsOf Fs_iMatRotator) := (ΩOK_cons (cong_direction lv) Tryz.call81 (ΩOK_cons (con_opposite lv) Tryz.call97 ΩOK_nil))
theorem con_iMatRotator (lv : LibV) : ConOK Tryz.prog (glb ++ lib lv) 61 sg_iMatRotator F_iMatRotator.spec := conOK_tree (om_iMatRotator lv) mixed Tryz.func61 (by kernel_rfl) (congrFun run_iMatRotator (lib lv))
theorem cong_iMatRotator (lv : LibV) : ConOK Tryz.prog (glb ++ lib lv) 61 sg_iMatRotator G_iMatRotator.spec := (con_iMatRotator lv).as as_iMatRotator
def sg_iMatAdjoint : Sig := { args := [.ag ζc1], pre := [], tin := ζc7, gin := [], res := .tu ζc23, post := [], tout := ζc4, gout := [] }
def cl_iMatAdjoint : List (Nat × Sig) := [(30, sg_mirror), (65, sg_gotMat)]
theorem run_iMatAdjoint : (fun H : List (Nat × List Sc) => run ⟨Tryz.prog, glb ++ H, cl_iMatAdjoint⟩ [] Tryz.f98 sg_iMatAdjoint (Tryz.f98.body.getD .skip)) = fun _ => tr_iMatAdjoint := by kernel_rfl
theorem om_iMatAdjoint (lv : LibV) : ΩOK ⟨Tryz.prog, (glb ++ lib lv), cl_iMatAdjoint⟩ (specsOf Fs_iMatAdjoint) := (ΩOK_cons (cong_mirror lv) Tryz.call30 (ΩOK_cons (cong_gotMat lv) Tryz.call65 ΩOK_nil))
theorem con_iMatAdjoint (lv : LibV) : ConOK Tryz.prog (glb ++ lib lv) 98 sg_iMatAdjoint F_iMatAdjoint.spec := conOK_tree (om_iMatAdjoint lv) mixed Tryz.func98 (by kernel_rfl) (congrFun run_iMatAdjoint (lib lv))
theorem cong_iMatAdjoint (lv : LibV) : ConOK Tryz.prog (glb ++ lib lv) 98 sg_iMatAdjoint G_iMatAdjoint.spec := (con_iMatAdjoint lv).as as_iMatAdjoint
def sg_iMatPlate : Sig := { args := ζc27, pre := [], tin := ζc14, gin := [], res := .tu ζc23, post := [], tout := ζc4, gout := [] }
def cl_iMatPlate : List (Nat × Sig) := [(61, sg_iMatRotator), (82, sg_within), (24, sg_iMatTimes), (98, sg_iMatAdjoint)]
theorem run_iMatPlate : (fun H : List (Nat × List Sc) => run ⟨Tryz.prog, glb ++ H, cl_iMatPlate⟩ [] Tryz.f62 sg_iMatPlate (Tryz.f62.body.getD .skip)) = fun _ => tr_iMatPlate := by kernel_rfl
theorem om_iMatPlate (lv : LibV) : ΩOK ⟨Tryz.prog, (glb ++ lib lv), cl_iMatPlate⟩ (specsOf Fs_iMatPlate) := (ΩOK_cons (cong_iMatRotator lv) Tryz.call61 (ΩOK_cons (cong_within lv) Tryz.call82 (ΩOK_cons (cong_iMatTimes lv) Tryz.call24 (ΩOK_cons (cong_iMatAdjoint lv) Tryz.call98 ΩOK_nil))))
theorem con_iMatPlate (lv : LibV) : ConOK Tryz.prog (glb ++ lib lv) 62 sg_iMatPlate SP_iMatPlate := conOK_of (om_iMatPlate lv) mixed Tryz.func62 (by kernel_rfl) (congrFun run_iMatPlate (lib lv)) (fun ins K ht h => sat_iMatPlate Tryz.prog ins K ht h)
def sg_iMatFilter : Sig := { args := ζc24, pre := [], tin := ζc38, gin := [], res := .tu ζc23, post := [], tout := ζc4, gout := [] }
def cl_iMatFilter : List (Nat × Sig) := [(81, sg_direction), (25, sg_need), (29, sg_times), (65, sg_gotMat)]
theorem run_iMatFilter : (fun H : List (Nat × List Sc) => run ⟨Tryz.prog, glb ++ H, cl_iMatFilter⟩ [] Tryz.f63 sg_iMatFilter (Tryz.f63.body.getD .skip)) = fun _ => tr_iMatFilter := by kernel_rfl
theorem om_iMatFilter (lv : LibV) : ΩOK ⟨Tryz.prog, (glb ++ lib lv), cl_iMatFilter⟩ (specsOf Fs_iMatFilter) := (ΩOK_cons (cong_direction lv) Tryz.call81 (ΩOK_cons (cong_need lv) Tryz.call25 (ΩOK_cons (cong_times lv) Tryz.call29 (ΩOK_cons (cong_gotMat lv) Tryz.call65 ΩOK_nil))))
theorem con_iMatFilter (lv : LibV) : ConOK Tryz.prog (glb ++ lib lv) 63 sg_iMatFilter F_iMatFilter.spec := conOK_tree (om_iMatFilter lv) mixed Tryz.func63 (by kernel_rfl) (congrFun run_iMatFilter (lib lv))
theorem cong_iMatFilter (lv : LibV) : ConOK Tryz.prog (glb ++ lib lv) 63 sg_iMatFilter G_iMatFilter.spec := (con_iMatFilter lv).as as_iMatFilter
def sg_share : Sig := { args := [.ag ζc5], pre := [], tin := [.int .u8, .sl, .str, .row .i64 1], gin := [(1, 3, 1)], res := .c ζc33, post := [], tout := ζc14, gout := [] }
def cl_share : List (Nat × Sig) := [(74, sg_lowest)]
theorem run_share : (fun H : List (Nat × List Sc) => run ⟨Tryz.prog, glb ++ H, cl_share⟩ [] Tryz.f49 sg_share (Tryz.f49.body.getD .skip)) = fun _ => tr_share := by kernel_rfl
theorem om_share (lv : LibV) : ΩOK ⟨Tryz.prog, (glb ++ lib lv), cl_share⟩ (specsOf Fs_share) := (ΩOK_cons (cong_lowest lv) Tryz.call74 ΩOK_nil)
theorem con_share (lv : LibV) : ConOK Tryz.prog (glb ++ lib lv) 49 sg_share SP_share := conOK_of (om_share lv) mixed Tryz.func49 (by kernel_rfl) (congrFun run_share (lib lv)) (fun ins K ht h => sat_share Tryz.prog ins K ht h)
def sg_mat : Sig := { args := [.ag ζc5], pre := [], tin := [.int .u8, .sl, .str, .row .i64 1], gin := [(1, 3, 1)], res := .tu ζc23, post := [], tout := ζc4, gout := [] }
def cl_mat : List (Nat × Sig) := [(61, sg_iMatRotator), (62, sg_iMatPlate), (63, sg_iMatFilter), (49, sg_share)]
theorem run_mat : (fun H : List (Nat × List Sc) => run ⟨Tryz.prog, glb ++ H, cl_mat⟩ [] Tryz.f23 sg_mat (Tryz.f23.body.getD .skip)) = fun _ => tr_mat := by kernel_rfl
theorem om_mat (lv : LibV) : ΩOK ⟨Tryz.prog, (glb ++ lib lv), cl_mat⟩ Ss_mat := (ΩOK_consS (cong_iMatRotator lv) Tryz.call61 (ΩOK_consS (con_iMatPlate lv) Tryz.call62 (ΩOK_consS (cong_iMatFilter lv) Tryz.call63 (ΩOK_consS (con_share lv) Tryz.call49 ΩOK_nilS))))
theorem con_mat (lv : LibV) : ConOK Tryz.prog (glb ++ lib lv) 23 sg_mat SP_mat := conOK_of (om_mat lv) mixed Tryz.func23 (by kernel_rfl) (congrFun run_mat (lib lv)) (fun ins K ht h => sat_mat Tryz.prog ins K ht h)
def sg_l7Part : Sig := { args := [.ag ζc41], pre := [], tin := [.int .u8, .sl, .row .i64 1], gin := [(1, 2, 1)], res := .c ζc33, post := [], tout := ζc14, gout := [] }
def cl_l7Part : List (Nat × Sig) := [(87, sg_sFracMake)]
theorem run_l7Part : (fun H : List (Nat × List Sc) => run ⟨Tryz.prog, glb ++ H, cl_l7Part⟩ [] Tryz.f55 sg_l7Part (Tryz.f55.body.getD .skip)) = fun _ => tr_l7Part := by kernel_rfl
theorem om_l7Part (lv : LibV) : ΩOK ⟨Tryz.prog, (glb ++ lib lv), cl_l7Part⟩ (specsOf Fs_l7Part) := (ΩOK_cons (cong_sFracMake lv) Tryz.call87 ΩOK_nil)
theorem con_l7Part (lv : LibV) : ConOK Tryz.prog (glb ++ lib lv) 55 sg_l7Part SP_l7Part := conOK_of (om_l7Part lv) mixed Tryz.func55 (by kernel_rfl) (congrFun run_l7Part (lib lv)) (fun ins K ht h => sat_l7Part Tryz.prog ins K ht h)
def sg_l7Mat : Sig := { args := [.ag ζc41], pre := [], tin := [.int .u8, .sl, .row .i64 1], gin := [(1, 2, 1)], res := .tu ζc23, post := [], tout := ζc4, gout := [] }
def cl_l7Mat : List (Nat × Sig) := [(88, sg_sMatRotator), (89, sg_sMatPlate), (90, sg_sMatFilter), (55, sg_l7Part), (91, sg_l5One)]
theorem run_l7Mat : (fun H : List (Nat × List Sc) => run ⟨Tryz.prog, glb ++ H, cl_l7Mat⟩ [] Tryz.f56 sg_l7Mat (Tryz.f56.body.getD .skip)) = fun _ => tr_l7Mat := by kernel_rfl
theorem om_l7Mat (lv : LibV) : ΩOK ⟨Tryz.prog, (glb ++ lib lv), cl_l7Mat⟩ Ss_l7Mat := (ΩOK_consS (cong_sMatRotator lv) Tryz.call88 (ΩOK_consS (con_sMatPlate lv) Tryz.call89 (ΩOK_consS (cong_sMatFilter lv) Tryz.call90 (ΩOK_consS (con_l7Part lv) Tryz.call55 (ΩOK_consS (con_l5One lv) Tryz.call91 ΩOK_nilS)))))
theorem con_l7Mat (lv : LibV) : ConOK Tryz.prog (glb ++ lib lv) 56 sg_l7Mat SP_l7Mat := conOK_of (om_l7Mat lv) mixed Tryz.func56 (by kernel_rfl) (congrFun run_l7Mat (lib lv)) (fun ins K ht h => sat_l7Mat Tryz.prog ins K ht h)
def sg_iBenchMat : Sig := { args := [.s ζc15], pre := [], tin := [.str], gin := [], res := .tu ζc23, post := [], tout := ζc4, gout := [] }
def cl_iBenchMat : List (Nat × Sig) := [(15, sg_readBench), (23, sg_mat), (24, sg_iMatTimes)]
theorem run_iBenchMat : (fun H : List (Nat × List Sc) => run ⟨Tryz.prog, glb ++ H, cl_iBenchMat⟩ [(0, ⟨[(21, .int .i64), (5, .bool)], [(1, 0, .int .i64), (1, 1, .int .i64), (1, 2, .int .i64), (1, 3, .int .i64), (1, 4, .int .i64), (1, 5, .int .i64), (1, 6, .int .i64), (1, 7, .int .i64), (1, 8, .int .i64), (1, 9, .int .i64), (1, 10, .int .i64), (1, 11, .int .i64)], none⟩)] Tryz.f8 sg_iBenchMat (Tryz.f8.body.getD .skip)) = fun _ => tr_iBenchMat := by kernel_rfl
theorem om_iBenchMat (lv : LibV) : ΩOK ⟨Tryz.prog, (glb ++ lib lv), cl_iBenchMat⟩ Ss_iBenchMat := (ΩOK_consS (con_readBench lv) Tryz.call15 (ΩOK_consS (con_mat lv) Tryz.call23 (ΩOK_consS (cong_iMatTimes lv) Tryz.call24 ΩOK_nilS)))
theorem con_iBenchMat (lv : LibV) : ConOK Tryz.prog (glb ++ lib lv) 8 sg_iBenchMat SP_iBenchMat := conOK_of (om_iBenchMat lv) mixed Tryz.func8 (by kernel_rfl) (congrFun run_iBenchMat (lib lv)) (fun ins K ht h => sat_iBenchMat Tryz.prog ins K ht h)
def sg_table : Sig := { args := [.ag ζc5], pre := [], tin := [.int .u8, .sl, .str, .row .i64 1], gin := [(1, 3, 1)], res := .tu ζc28, post := [], tout := ζc3, gout := [] }
def cl_table : List (Nat × Sig) := [(48, sg_iTableFade), (49, sg_share), (23, sg_mat), (9, sg_iTableOf)]
theorem run_table : (fun H : List (Nat × List Sc) => run ⟨Tryz.prog, glb ++ H, cl_table⟩ [] Tryz.f17 sg_table (Tryz.f17.body.getD .skip)) = fun _ => tr_table := by kernel_rfl
theorem om_table (lv : LibV) : ΩOK ⟨Tryz.prog, (glb ++ lib lv), cl_table⟩ Ss_table := (ΩOK_consS (cong_iTableFade lv) Tryz.call48 (ΩOK_consS (con_share lv) Tryz.call49 (ΩOK_consS (con_mat lv) Tryz.call23 (ΩOK_consS (cong_iTableOf lv) Tryz.call9 ΩOK_nilS))))
theorem con_table (lv : LibV) : ConOK Tryz.prog (glb ++ lib lv) 17 sg_table SP_table := conOK_of (om_table lv) mixed Tryz.func17 (by kernel_rfl) (congrFun run_table (lib lv)) (fun ins K ht h => sat_table Tryz.prog ins K ht h)
def sg_l7Table : Sig := { args := [.ag ζc41], pre := [], tin := [.int .u8, .sl, .row .i64 1], gin := [(1, 2, 1)], res := .tu ζc28, post := [], tout := ζc3, gout := [] }
def cl_l7Table : List (Nat × Sig) := [(55, sg_l7Part), (54, sg_sTableFade), (56, sg_l7Mat), (57, sg_sTableOf)]
theorem run_l7Table : (fun H : List (Nat × List Sc) => run ⟨Tryz.prog, glb ++ H, cl_l7Table⟩ [] Tryz.f21 sg_l7Table (Tryz.f21.body.getD .skip)) = fun _ => tr_l7Table := by kernel_rfl
theorem om_l7Table (lv : LibV) : ΩOK ⟨Tryz.prog, (glb ++ lib lv), cl_l7Table⟩ Ss_l7Table := (ΩOK_consS (con_l7Part lv) Tryz.call55 (ΩOK_consS (cong_sTableFade lv) Tryz.call54 (ΩOK_consS (con_l7Mat lv) Tryz.call56 (ΩOK_consS (cong_sTableOf lv) Tryz.call57 ΩOK_nilS))))
theorem con_l7Table (lv : LibV) : ConOK Tryz.prog (glb ++ lib lv) 21 sg_l7Table SP_l7Table := conOK_of (om_l7Table lv) mixed Tryz.func21 (by kernel_rfl) (congrFun run_l7Table (lib lv)) (fun ins K ht h => sat_l7Table Tryz.prog ins K ht h)
def sg_iBenchTable : Sig := { args := [.s ζc15], pre := [], tin := [.str], gin := [], res := .tu ζc28, post := [], tout := ζc3, gout := [] }
def cl_iBenchTable : List (Nat × Sig) := [(15, sg_readBench), (16, sg_iDiag), (17, sg_table), (18, sg_iTableTimes)]
theorem run_iBenchTable : (fun H : List (Nat × List Sc) => run ⟨Tryz.prog, glb ++ H, cl_iBenchTable⟩ [(0, ⟨[(23, .int .i64), (5, .bool)], [(1, 0, .int .i64), (1, 1, .int .i64), (1, 2, .int .i64), (1, 3, .int .i64), (1, 4, .int .i64), (1, 5, .int .i64), (1, 6, .int .i64), (1, 7, .int .i64), (1, 8, .int .i64), (1, 9, .int .i64), (1, 10, .int .i64), (1, 11, .int .i64), (1, 12, .int .i64), (1, 13, .int .i64), (1, 14, .int .i64), (1, 15, .int .i64), (1, 16, .int .i64), (1, 17, .int .i64), (1, 18, .int .i64), (1, 19, .int .i64), (1, 20, .int .i64), (1, 21, .int .i64), (1, 22, .int .i64), (1, 23, .int .i64), (1, 24, .int .i64), (1, 25, .int .i64), (1, 26, .int .i64), (1, 27, .int .i64), (1, 28, .int .i64), (1, 29, .int .i64), (1, 30, .int .i64), (1, 31, .int .i64), (1, 32, .int .i64), (1, 33, .int .i64), (1, 34, .int .i64), (1, 35, .int .i64), (1, 36, .int .i64), (1, 37, .int .i64), (1, 38, .int .i64), (1, 39, .int .i64), (1, 40, .int .i64), (1, 41, .int .i64), (1, 42, .int .i64), (1, 43, .int .i64), (1, 44, .int .i64), (1, 45, .int .i64), (1, 46, .int .i64), (1, 47, .int .i64)], none⟩)] Tryz.f6 sg_iBenchTable (Tryz.f6.body.getD .skip)) = fun _ => tr_iBenchTable := by kernel_rfl
theorem om_iBenchTable (lv : LibV) : ΩOK ⟨Tryz.prog, (glb ++ lib lv), cl_iBenchTable⟩ Ss_iBenchTable := (ΩOK_consS (con_readBench lv) Tryz.call15 (ΩOK_consS (con_iDiag lv) Tryz.call16 (ΩOK_consS (con_table lv) Tryz.call17 (ΩOK_consS (cong_iTableTimes lv) Tryz.call18 ΩOK_nilS))))
theorem con_iBenchTable (lv : LibV) : ConOK Tryz.prog (glb ++ lib lv) 6 sg_iBenchTable SP_iBenchTable := conOK_of (om_iBenchTable lv) mixed Tryz.func6 (by kernel_rfl) (congrFun run_iBenchTable (lib lv)) (fun ins K ht h => sat_iBenchTable Tryz.prog ins K ht h)
def sg_sBenchTable : Sig := { args := [.s ζc15], pre := [], tin := [.str], gin := [], res := .tu ζc28, post := [], tout := ζc3, gout := [] }
def cl_sBenchTable : List (Nat × Sig) := [(19, sg_l7Bench), (20, sg_l6tUnit), (21, sg_l7Table), (22, sg_sTableTimes)]
theorem run_sBenchTable : (fun H : List (Nat × List Sc) => run ⟨Tryz.prog, glb ++ H, cl_sBenchTable⟩ [(0, ⟨[(7, .int .i64), (5, .bool)], [(1, 0, .int .i64), (1, 1, .int .i64), (1, 2, .int .i64), (1, 3, .int .i64), (1, 4, .int .i64), (1, 5, .int .i64), (1, 6, .int .i64), (1, 7, .int .i64), (1, 8, .int .i64), (1, 9, .int .i64), (1, 10, .int .i64), (1, 11, .int .i64), (1, 12, .int .i64), (1, 13, .int .i64), (1, 14, .int .i64), (1, 15, .int .i64), (1, 16, .int .i64), (1, 17, .int .i64), (1, 18, .int .i64), (1, 19, .int .i64), (1, 20, .int .i64), (1, 21, .int .i64), (1, 22, .int .i64), (1, 23, .int .i64), (1, 24, .int .i64), (1, 25, .int .i64), (1, 26, .int .i64), (1, 27, .int .i64), (1, 28, .int .i64), (1, 29, .int .i64), (1, 30, .int .i64), (1, 31, .int .i64), (1, 32, .int .i64), (1, 33, .int .i64), (1, 34, .int .i64), (1, 35, .int .i64), (1, 36, .int .i64), (1, 37, .int .i64), (1, 38, .int .i64), (1, 39, .int .i64), (1, 40, .int .i64), (1, 41, .int .i64), (1, 42, .int .i64), (1, 43, .int .i64), (1, 44, .int .i64), (1, 45, .int .i64), (1, 46, .int .i64), (1, 47, .int .i64)], none⟩)] Tryz.f7 sg_sBenchTable (Tryz.f7.body.getD .skip)) = fun _ => tr_sBenchTable := by kernel_rfl
theorem om_sBenchTable (lv : LibV) : ΩOK ⟨Tryz.prog, (glb ++ lib lv), cl_sBenchTable⟩ Ss_sBenchTable := (ΩOK_consS (con_l7Bench lv) Tryz.call19 (ΩOK_consS (con_l6tUnit lv) Tryz.call20 (ΩOK_consS (con_l7Table lv) Tryz.call21 (ΩOK_consS (cong_sTableTimes lv) Tryz.call22 ΩOK_nilS))))
theorem con_sBenchTable (lv : LibV) : ConOK Tryz.prog (glb ++ lib lv) 7 sg_sBenchTable SP_sBenchTable := conOK_of (om_sBenchTable lv) mixed Tryz.func7 (by kernel_rfl) (congrFun run_sBenchTable (lib lv)) (fun ins K ht h => sat_sBenchTable Tryz.prog ins K ht h)
def sg_DrawBenchTable : Sig := { args := [.s ζc15], pre := [], tin := [.sl], gin := [], res := .c ζc37, post := [], tout := [.str], gout := [] }
def cl_DrawBenchTable : List (Nat × Sig) := [(14, sg_openC), (13, sg_l92Bench)]
theorem run_DrawBenchTable : (fun H : List (Nat × List Sc) => run ⟨Tryz.prog, glb ++ H, cl_DrawBenchTable⟩ [] Tryz.f5 sg_DrawBenchTable (Tryz.f5.body.getD .skip)) = fun _ => tr_DrawBenchTable := by kernel_rfl
theorem om_DrawBenchTable (lv : LibV) {cb : CodeB} (hk : CodeOk cb) (hG : Known cb (glb ++ lib lv ++ cb.tail)) : ΩOK ⟨Tryz.prog, glb ++ lib lv ++ cb.tail, cl_DrawBenchTable⟩ (Ss_DrawBenchTable cb) := (ΩOK_consS (con_openC lv hk hG) Tryz.call14 (ΩOK_consS (con_l92Bench lv hk hG) Tryz.call13 ΩOK_nilS))
theorem con_DrawBenchTable (lv : LibV) {cb : CodeB} (hk : CodeOk cb) (hG : Known cb (glb ++ lib lv ++ cb.tail)) : ConOK Tryz.prog (glb ++ lib lv ++ cb.tail) 5 sg_DrawBenchTable (SP_DrawBenchTable cb) := conOK_of (om_DrawBenchTable lv hk hG) mixed Tryz.func5 (by kernel_rfl) (congrFun run_DrawBenchTable (lib lv ++ cb.tail)) (fun ins K ht h => sat_DrawBenchTable Tryz.prog cb hk ins K ht h)
def sg_FnBenchTable : Sig := { args := [.s ζc15], pre := [], tin := [.sl], gin := [], res := .c ζc37, post := [], tout := [.bool], gout := [] }
def cl_FnBenchTable : List (Nat × Sig) := [(5, sg_DrawBenchTable), (6, sg_iBenchTable), (7, sg_sBenchTable), (8, sg_iBenchMat), (9, sg_iTableOf), (10, sg_iTableEnergy), (11, sg_iTableKeeps)]
theorem run_FnBenchTable : (fun H : List (Nat × List Sc) => run ⟨Tryz.prog, glb ++ H, cl_FnBenchTable⟩ [] Tryz.f3 sg_FnBenchTable (Tryz.f3.body.getD .skip)) = fun _ => tr_FnBenchTable := by kernel_rfl
theorem om_FnBenchTable (lv : LibV) {cb : CodeB} (hk : CodeOk cb) (hG : Known cb (glb ++ lib lv ++ cb.tail)) : ΩOK ⟨Tryz.prog, glb ++ lib lv ++ cb.tail, cl_FnBenchTable⟩ (Ss_FnBenchTable cb) := (ΩOK_consS (con_DrawBenchTable lv hk hG) Tryz.call5 (ΩOK_consS (con_iBenchTable lv).more Tryz.call6 (ΩOK_consS (con_sBenchTable lv).more Tryz.call7 (ΩOK_consS (con_iBenchMat lv).more Tryz.call8 (ΩOK_consS (cong_iTableOf lv).more Tryz.call9 (ΩOK_consS (con_iTableEnergy lv).more Tryz.call10 (ΩOK_consS (con_iTableKeeps lv).more Tryz.call11 ΩOK_nilS)))))))
theorem con_FnBenchTable (lv : LibV) {cb : CodeB} (hk : CodeOk cb) (hG : Known cb (glb ++ lib lv ++ cb.tail)) : ConOK Tryz.prog (glb ++ lib lv ++ cb.tail) 3 sg_FnBenchTable (lawF cb).spec := conOK_of (om_FnBenchTable lv hk hG) mixed Tryz.func3 (by kernel_rfl) (congrFun run_FnBenchTable (lib lv ++ cb.tail)) (fun ins K ht h => sat_FnBenchTable Tryz.prog cb hk ins K ht h.1 h.2)
end Go.Proofs.YtbdinipcomjmeaaGreatDoor

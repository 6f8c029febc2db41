/- The contracts of the functions. -/
import Derived.Test.YtlikihnmfdlpbaaDoorChecked
import Derived.Test.YtlikihnmfdlpbaaDoorRkAFnBenchBack
import Derived.WalkKit
import Derived.Laws.OwnMore
import Derived.Deep.MidRow
import Derived.Test.YtlikihnmfdlpbaaDoorShelf
import Derived.Laws.BytesArg
import Derived.Lib.ItoaLen
import Derived.Deep.DrawnRows
namespace Go.Proofs.YtlikihnmfdlpbaaDoor
open Go Go.Sx Go.RowKit
set_option maxRecDepth 100000

attribute [local go_sem ↓] Go.wp_at_zero Go.wp_at_succ
def lib (lv : LibV) : List (Nat × List Sc) := lv.tail 1 4 5
def glb : List (Nat × List Sc) := [(0, Lib.pow10Tab.map fun z => Sc.e (.int .u64 z))]
theorem mixed : Tryd.prog.follows .mixedOrders = true := by kernel_rfl

def sg_size : Sig := { args := [.s (.e (.var 0))], pre := [], tin := [.int .i64], gin := [], res := .c (.s (.e (.var 0))), post := [], tout := [.int .i64], gout := [] }
def cl_size : List (Nat × Sig) := []
theorem run_size : (fun H : List (Nat × List Sc) => run ⟨Tryd.prog, glb ++ H, cl_size⟩ [] Tryd.f55 sg_size (Tryd.f55.body.getD .skip)) = fun _ => tr_size := by kernel_rfl
theorem om_size (lv : LibV) : ΩOK ⟨Tryd.prog, (glb ++ lib lv), cl_size⟩ (specsOf Fs_size) := ΩOK_nil
theorem con_size (lv : LibV) : ConOK Tryd.prog (glb ++ lib lv) 55 sg_size F_size.spec := conOK_tree (om_size lv) mixed Tryd.func55 (by kernel_rfl) (congrFun run_size (lib lv))

def sg_within : Sig := { args := [.s (.e (.var 0)), .s (.e (.var 1)), .s (.e (.var 2))], pre := [], tin := [.int .i64, .int .i64, .int .i64], gin := [], res := .c (.s (.e (.var 0))), post := [], tout := [.bool], gout := [] }
def cl_within : List (Nat × Sig) := []
theorem run_within : (fun H : List (Nat × List Sc) => run ⟨Tryd.prog, glb ++ H, cl_within⟩ [] Tryd.f41 sg_within (Tryd.f41.body.getD .skip)) = fun _ => tr_within := by kernel_rfl
theorem om_within (lv : LibV) : ΩOK ⟨Tryd.prog, (glb ++ lib lv), cl_within⟩ (specsOf Fs_within) := ΩOK_nil
theorem con_within (lv : LibV) : ConOK Tryd.prog (glb ++ lib lv) 41 sg_within F_within.spec := conOK_tree (om_within lv) mixed Tryd.func41 (by kernel_rfl) (congrFun run_within (lib lv))
theorem cong_within (lv : LibV) : ConOK Tryd.prog (glb ++ lib lv) 41 sg_within G_within.spec := (con_within lv).as as_within

def sg_l6In : Sig := { args := [.s (.e (.var 0)), .s (.e (.var 1)), .s (.e (.var 2))], pre := [], tin := [.int .i64, .int .i64, .int .i64], gin := [], res := .c (.s (.e (.var 0))), post := [], tout := [.bool], gout := [] }
def cl_l6In : List (Nat × Sig) := []
theorem run_l6In : (fun H : List (Nat × List Sc) => run ⟨Tryd.prog, glb ++ H, cl_l6In⟩ [] Tryd.f39 sg_l6In (Tryd.f39.body.getD .skip)) = fun _ => tr_l6In := by kernel_rfl
theorem om_l6In (lv : LibV) : ΩOK ⟨Tryd.prog, (glb ++ lib lv), cl_l6In⟩ (specsOf Fs_l6In) := ΩOK_nil
theorem con_l6In (lv : LibV) : ConOK Tryd.prog (glb ++ lib lv) 39 sg_l6In F_l6In.spec := conOK_tree (om_l6In lv) mixed Tryd.func39 (by kernel_rfl) (congrFun run_l6In (lib lv))
theorem cong_l6In (lv : LibV) : ConOK Tryd.prog (glb ++ lib lv) 39 sg_l6In G_l6In.spec := (con_l6In lv).as as_l6In

def sg_l2In : Sig := { args := [.s (.e (.var 0))], pre := [], tin := [.int .i64], gin := [], res := .c (.s (.e (.var 0))), post := [], tout := [.bool], gout := [] }
def cl_l2In : List (Nat × Sig) := [(39, sg_l6In)]
theorem run_l2In : (fun H : List (Nat × List Sc) => run ⟨Tryd.prog, glb ++ H, cl_l2In⟩ [] Tryd.f77 sg_l2In (Tryd.f77.body.getD .skip)) = fun _ => tr_l2In := by kernel_rfl
theorem om_l2In (lv : LibV) : ΩOK ⟨Tryd.prog, (glb ++ lib lv), cl_l2In⟩ (specsOf Fs_l2In) := (ΩOK_cons (cong_l6In lv) Tryd.call39 ΩOK_nil)
theorem con_l2In (lv : LibV) : ConOK Tryd.prog (glb ++ lib lv) 77 sg_l2In F_l2In.spec := conOK_tree (om_l2In lv) mixed Tryd.func77 (by kernel_rfl) (congrFun run_l2In (lib lv))
theorem cong_l2In (lv : LibV) : ConOK Tryd.prog (glb ++ lib lv) 77 sg_l2In G_l2In.spec := (con_l2In lv).as as_l2In

def sg_divisor : Sig := { args := [.s (.e (.var 0)), .s (.e (.var 1))], pre := [], tin := [.int .i64, .int .i64], gin := [], res := .c (.s (.e (.var 0))), post := [], tout := [.int .i64], gout := [] }
def cl_divisor : List (Nat × Sig) := []
theorem run_divisor : (fun H : List (Nat × List Sc) => run ⟨Tryd.prog, glb ++ H, cl_divisor⟩ [(0, ⟨[(0, .int .i64), (1, .int .i64)], [], none⟩)] Tryd.f54 sg_divisor (Tryd.f54.body.getD .skip)) = fun _ => tr_divisor := by kernel_rfl
theorem om_divisor (lv : LibV) : ΩOK ⟨Tryd.prog, (glb ++ lib lv), cl_divisor⟩ (specsOf Fs_divisor) := ΩOK_nil
theorem con_divisor (lv : LibV) : ConOK Tryd.prog (glb ++ lib lv) 54 sg_divisor F_divisor.spec := conOK_of (om_divisor lv) mixed Tryd.func54 (by kernel_rfl) (congrFun run_divisor (lib lv)) (fun ins K ht h => sat_divisor Tryd.prog ins K ht h.1 h.2)

def sg_l2Gcd : Sig := { args := [.s (.e (.var 0)), .s (.e (.var 1))], pre := [], tin := [.int .i64, .int .i64], gin := [], res := .c (.s (.e (.var 0))), post := [], tout := [.int .i64], gout := [] }
def cl_l2Gcd : List (Nat × Sig) := []
theorem run_l2Gcd : (fun H : List (Nat × List Sc) => run ⟨Tryd.prog, glb ++ H, cl_l2Gcd⟩ [(0, ⟨[(0, .int .i64), (1, .int .i64)], [], none⟩)] Tryd.f63 sg_l2Gcd (Tryd.f63.body.getD .skip)) = fun _ => tr_l2Gcd := by kernel_rfl
theorem om_l2Gcd (lv : LibV) : ΩOK ⟨Tryd.prog, (glb ++ lib lv), cl_l2Gcd⟩ (specsOf Fs_l2Gcd) := ΩOK_nil
theorem con_l2Gcd (lv : LibV) : ConOK Tryd.prog (glb ++ lib lv) 63 sg_l2Gcd F_l2Gcd.spec := conOK_of (om_l2Gcd lv) mixed Tryd.func63 (by kernel_rfl) (congrFun run_l2Gcd (lib lv)) (fun ins K ht h => sat_l2Gcd Tryd.prog ins K ht h.1 h.2)

def sg_lowest : Sig := { args := [.s (.e (.var 0)), .s (.e (.var 1)), .s (.e (.var 2))], pre := [], tin := [.int .i64, .int .i64, .int .i64], gin := [], res := .tu [.ag [.e (.var 0), .e (.var 1), .e (.var 2)], .s (.e (.var 3))], post := [], tout := [.int .i64, .int .i64, .int .i64, .bool], gout := [] }
def cl_lowest : List (Nat × Sig) := [(55, sg_size), (54, sg_divisor), (41, sg_within)]
theorem run_lowest : (fun H : List (Nat × List Sc) => run ⟨Tryd.prog, glb ++ H, cl_lowest⟩ [] Tryd.f42 sg_lowest (Tryd.f42.body.getD .skip)) = fun _ => tr_lowest := by kernel_rfl
theorem om_lowest (lv : LibV) : ΩOK ⟨Tryd.prog, (glb ++ lib lv), cl_lowest⟩ (specsOf Fs_lowest) := (ΩOK_cons (con_size lv) Tryd.call55 (ΩOK_cons (con_divisor lv) Tryd.call54 (ΩOK_cons (cong_within lv) Tryd.call41 ΩOK_nil)))
theorem con_lowest (lv : LibV) : ConOK Tryd.prog (glb ++ lib lv) 42 sg_lowest F_lowest.spec := conOK_tree (om_lowest lv) mixed Tryd.func42 (by kernel_rfl) (congrFun run_lowest (lib lv))
theorem cong_lowest (lv : LibV) : ConOK Tryd.prog (glb ++ lib lv) 42 sg_lowest G_lowest.spec := (con_lowest lv).as as_lowest

def sg_sFracValid : Sig := { args := [.ag [.e (.var 0), .e (.var 1), .e (.var 2)]], pre := [], tin := [.int .i64, .int .i64, .int .i64], gin := [], res := .c (.s (.e (.var 0))), post := [], tout := [.bool], gout := [] }
def cl_sFracValid : List (Nat × Sig) := [(77, sg_l2In), (39, sg_l6In), (63, sg_l2Gcd)]
theorem run_sFracValid : (fun H : List (Nat × List Sc) => run ⟨Tryd.prog, glb ++ H, cl_sFracValid⟩ [] Tryd.f64 sg_sFracValid (Tryd.f64.body.getD .skip)) = fun _ => tr_sFracValid := by kernel_rfl
theorem om_sFracValid (lv : LibV) : ΩOK ⟨Tryd.prog, (glb ++ lib lv), cl_sFracValid⟩ (specsOf Fs_sFracValid) := (ΩOK_cons (cong_l2In lv) Tryd.call77 (ΩOK_cons (cong_l6In lv) Tryd.call39 (ΩOK_cons (con_l2Gcd lv) Tryd.call63 ΩOK_nil)))
theorem con_sFracValid (lv : LibV) : ConOK Tryd.prog (glb ++ lib lv) 64 sg_sFracValid F_sFracValid.spec := conOK_tree (om_sFracValid lv) mixed Tryd.func64 (by kernel_rfl) (congrFun run_sFracValid (lib lv))
theorem cong_sFracValid (lv : LibV) : ConOK Tryd.prog (glb ++ lib lv) 64 sg_sFracValid G_sFracValid.spec := (con_sFracValid lv).as as_sFracValid

def sg_l2Low : Sig := { args := [.s (.e (.var 0)), .s (.e (.var 1)), .s (.e (.var 2))], pre := [], tin := [.int .i64, .int .i64, .int .i64], gin := [], res := .tu [.ag [.e (.var 0), .e (.var 1), .e (.var 2)], .s (.e (.var 3))], post := [], tout := [.int .i64, .int .i64, .int .i64, .bool], gout := [] }
def cl_l2Low : List (Nat × Sig) := [(63, sg_l2Gcd), (64, sg_sFracValid)]
theorem run_l2Low : (fun H : List (Nat × List Sc) => run ⟨Tryd.prog, glb ++ H, cl_l2Low⟩ [] Tryd.f53 sg_l2Low (Tryd.f53.body.getD .skip)) = fun _ => tr_l2Low := by kernel_rfl
theorem om_l2Low (lv : LibV) : ΩOK ⟨Tryd.prog, (glb ++ lib lv), cl_l2Low⟩ (specsOf Fs_l2Low) := (ΩOK_cons (con_l2Gcd lv) Tryd.call63 (ΩOK_cons (cong_sFracValid lv) Tryd.call64 ΩOK_nil))
theorem con_l2Low (lv : LibV) : ConOK Tryd.prog (glb ++ lib lv) 53 sg_l2Low F_l2Low.spec := conOK_tree (om_l2Low lv) mixed Tryd.func53 (by kernel_rfl) (congrFun run_l2Low (lib lv))
theorem cong_l2Low (lv : LibV) : ConOK Tryd.prog (glb ++ lib lv) 53 sg_l2Low G_l2Low.spec := (con_l2Low lv).as as_l2Low

def sg_sFracMake : Sig := { args := [.s (.e (.var 0)), .s (.e (.var 1)), .s (.e (.var 2))], pre := [], tin := [.int .i64, .int .i64, .int .i64], gin := [], res := .tu [.ag [.e (.var 0), .e (.var 1), .e (.var 2)], .s (.e (.var 3))], post := [], tout := [.int .i64, .int .i64, .int .i64, .bool], gout := [] }
def cl_sFracMake : List (Nat × Sig) := [(39, sg_l6In), (53, sg_l2Low)]
theorem run_sFracMake : (fun H : List (Nat × List Sc) => run ⟨Tryd.prog, glb ++ H, cl_sFracMake⟩ [] Tryd.f40 sg_sFracMake (Tryd.f40.body.getD .skip)) = fun _ => tr_sFracMake := by kernel_rfl
theorem om_sFracMake (lv : LibV) : ΩOK ⟨Tryd.prog, (glb ++ lib lv), cl_sFracMake⟩ (specsOf Fs_sFracMake) := (ΩOK_cons (cong_l6In lv) Tryd.call39 (ΩOK_cons (cong_l2Low lv) Tryd.call53 ΩOK_nil))
theorem con_sFracMake (lv : LibV) : ConOK Tryd.prog (glb ++ lib lv) 40 sg_sFracMake F_sFracMake.spec := conOK_tree (om_sFracMake lv) mixed Tryd.func40 (by kernel_rfl) (congrFun run_sFracMake (lib lv))
theorem cong_sFracMake (lv : LibV) : ConOK Tryd.prog (glb ++ lib lv) 40 sg_sFracMake G_sFracMake.spec := (con_sFracMake lv).as as_sFracMake

def sg_direction : Sig := { args := [.s (.e (.var 0)), .s (.e (.var 1))], pre := [], tin := [.int .i64, .int .i64], gin := [], res := .tu [.ag [.e (.var 0), .e (.var 1), .e (.var 2)], .ag [.e (.var 3), .e (.var 4), .e (.var 5)], .s (.e (.var 6))], post := [], tout := [.int .i64, .int .i64, .int .i64, .int .i64, .int .i64, .int .i64, .bool], gout := [] }
def cl_direction : List (Nat × Sig) := [(41, sg_within), (42, sg_lowest)]
theorem run_direction : (fun H : List (Nat × List Sc) => run ⟨Tryd.prog, glb ++ H, cl_direction⟩ [] Tryd.f31 sg_direction (Tryd.f31.body.getD .skip)) = fun _ => tr_direction := by kernel_rfl
theorem om_direction (lv : LibV) : ΩOK ⟨Tryd.prog, (glb ++ lib lv), cl_direction⟩ (specsOf Fs_direction) := (ΩOK_cons (cong_within lv) Tryd.call41 (ΩOK_cons (cong_lowest lv) Tryd.call42 ΩOK_nil))
theorem con_direction (lv : LibV) : ConOK Tryd.prog (glb ++ lib lv) 31 sg_direction F_direction.spec := conOK_tree (om_direction lv) mixed Tryd.func31 (by kernel_rfl) (congrFun run_direction (lib lv))
theorem cong_direction (lv : LibV) : ConOK Tryd.prog (glb ++ lib lv) 31 sg_direction G_direction.spec := (con_direction lv).as as_direction

def sg_l5Direction : Sig := { args := [.s (.e (.var 0)), .s (.e (.var 1))], pre := [], tin := [.int .i64, .int .i64], gin := [], res := .tu [.ag [.e (.var 0), .e (.var 1), .e (.var 2)], .ag [.e (.var 3), .e (.var 4), .e (.var 5)], .s (.e (.var 6))], post := [], tout := [.int .i64, .int .i64, .int .i64, .int .i64, .int .i64, .int .i64, .bool], gout := [] }
def cl_l5Direction : List (Nat × Sig) := [(39, sg_l6In), (40, sg_sFracMake)]
theorem run_l5Direction : (fun H : List (Nat × List Sc) => run ⟨Tryd.prog, glb ++ H, cl_l5Direction⟩ [] Tryd.f29 sg_l5Direction (Tryd.f29.body.getD .skip)) = fun _ => tr_l5Direction := by kernel_rfl
theorem om_l5Direction (lv : LibV) : ΩOK ⟨Tryd.prog, (glb ++ lib lv), cl_l5Direction⟩ (specsOf Fs_l5Direction) := (ΩOK_cons (cong_l6In lv) Tryd.call39 (ΩOK_cons (cong_sFracMake lv) Tryd.call40 ΩOK_nil))
theorem con_l5Direction (lv : LibV) : ConOK Tryd.prog (glb ++ lib lv) 29 sg_l5Direction F_l5Direction.spec := conOK_tree (om_l5Direction lv) mixed Tryd.func29 (by kernel_rfl) (congrFun run_l5Direction (lib lv))
theorem cong_l5Direction (lv : LibV) : ConOK Tryd.prog (glb ++ lib lv) 29 sg_l5Direction G_l5Direction.spec := (con_l5Direction lv).as as_l5Direction

def sg_pick : Sig := { args := [.s (.p (.own 0) 0), .s (.e (.var 0))], pre := [⟨[.e (.var 1), .e (.var 2)], 68⟩], tin := [.int .i64, .sl, .int .i64, .row .u8 1], gin := [(1, 3, 1)], res := .c (.s (.e (.var 0))), post := [⟨[.e (.var 1), .e (.var 2)], 68⟩], tout := [.int .i64, .sl, .int .i64], gout := [] }
def cl_pick : List (Nat × Sig) := []
theorem run_pick : (fun H : List (Nat × List Sc) => run ⟨Tryd.prog, glb ++ H, cl_pick⟩ [] Tryd.f44 sg_pick (Tryd.f44.body.getD .skip)) = fun _ => tr_pick := by kernel_rfl
theorem om_pick (lv : LibV) : ΩOK ⟨Tryd.prog, (glb ++ lib lv), cl_pick⟩ (specsOf Fs_pick) := ΩOK_nil
theorem con_pick (lv : LibV) : ConOK Tryd.prog (glb ++ lib lv) 44 sg_pick F_pick.spec := conOK_tree (om_pick lv) mixed Tryd.func44 (by kernel_rfl) (congrFun run_pick (lib lv))

def sg_pickC : Sig := { args := [.s (.p (.own 0) 0), .s (.e (.var 0))], pre := [⟨[.e (.var 1), .e (.var 2)], 68⟩], tin := [.int .i64, .sl, .int .i64], gin := [], res := .c (.s (.e (.var 0))), post := [⟨[.e (.var 1), .e (.var 2)], 68⟩], tout := [.int .i64, .sl, .int .i64], gout := [] }
theorem con_pickC (lv : LibV) {cb : CodeB} (hk : CodeOk cb) (hG : Known cb (glb ++ lib lv ++ cb.tail)) : ConOK Tryd.prog (glb ++ lib lv ++ cb.tail) 44 sg_pickC (G_pick cb).spec := conOK_ghost (t := 68) hk hG (con_pick lv).more (ghost_pick hk)


def sg_openC : Sig := { args := [.s (.e (.var 0))], pre := [], tin := [.sl], gin := [], res := .c (.s (.p (.own 0) 0)), post := [⟨[.e (.var 0), .e (.var 1)], 68⟩], tout := [.sl, .int .i64], gout := [] }
set_option maxHeartbeats 800000 in
set_option maxRecDepth 1000000 in
theorem open_short (a : Option Addr) (len cap : Nat) (w : World) (hl : len ≤ 2000) :
    Calls Tryd.prog 34 #[.slice a len cap] w fun e w' => e = .returned (.pointer (some ⟨w.heap.size, 0, none⟩)) ∧ w' = w.alloc (.cells #[.slice a len cap, .int .i64 0] 68) := by
  go_enter Tryd.func34, Tryd.ntmps34
  go_wp2
  go_ret
  exact ⟨rfl, rfl⟩
set_option maxHeartbeats 800000 in
set_option maxRecDepth 1000000 in
theorem open_long (a : Addr) (len cap : Nat) (w : World) (hl : ¬ len ≤ 2000) (hc : len ≤ cap) (hm : len ≤ 1048576) :
    Calls Tryd.prog 34 #[.slice (some a) len cap] w fun e w' => e = .returned (.pointer (some ⟨w.heap.size, 0, none⟩)) ∧ w' = w.alloc (.cells #[.slice (some a) 2000 cap, .int .i64 0] 68) := by
  go_enter Tryd.func34, Tryd.ntmps34
  go_wp2
  go_ret
  exact ⟨rfl, rfl⟩
theorem con_openC (lv : LibV) {cb : CodeB} (_ : CodeOk cb) (_ : Known cb (glb ++ lib lv ++ cb.tail)) : ConOK Tryd.prog (glb ++ lib lv ++ cb.tail) 34 sg_openC (G_open cb).spec := conOK_open (t := 68) open_short open_long


def sg_Split : Sig := { args := [.s (.e (.var 0)), .s (.e (.var 1))], pre := [], tin := [.str, .str], gin := [], res := .c (.s (.e (.var 0))), post := [], tout := [.sl, .rowC [.str]], gout := [(0, 1, 1)] }
theorem con_Split (lv : LibV) : ConOK Tryd.prog (glb ++ lib lv) 36 sg_Split SP_Split :=
  conOK_split (t := 9) fun s sep w hg hs h1 => Tryd.strings_Split s sep lv.m w hs (glb_first (g := 1) (x := .int .i64 lv.m) hg rfl) h1


def sg_Join : Sig := { args := [.s (.e (.var 0)), .s (.e (.var 1))], pre := [], tin := [.sl, .str, .rowC [.str]], gin := [(0, 2, 1)], res := .c (.s (.e (.var 0))), post := [], tout := [.str], gout := [] }
theorem con_Join (lv : LibV) : ConOK Tryd.prog (glb ++ lib lv) 38 sg_Join SP_Join :=
  conOK_join Tryd.strings_Join_none Tryd.strings_Join


def sg_plainNumber : Sig := { args := [.s (.e (.var 0))], pre := [], tin := [.str], gin := [], res := .tu [.s (.e (.var 0)), .s (.e (.var 1))], post := [], tout := [.int .i64, .bool], gout := [] }
theorem num_tab (lv : LibV) {w : World} (hg : GlbOk (glb ++ lib lv) w) : Lib.TabIs Tryd.prog w "internal/strconv.uint64pow10" .u64 Lib.pow10Tab := tab_var (g := 0) (zs := Lib.pow10Tab) hg (by kernel_rfl) (by decide) (by kernel_rfl)
set_option maxHeartbeats 800000 in
set_option maxRecDepth 1000000 in
theorem number_walk (lv : LibV) (l : List UInt8) (w : World) (hg : GlbOk (glb ++ lib lv) w) (hl : l.length ≤ 2097152) :
    Calls Tryd.prog 49 #[bv l] w fun e w' => ∃ z b, e = .returned (.tuple #[.int .i64 z, .bool b]) ∧ I64 z ∧ (match num l with
      | some n => z = n ∧ b = true
      | none => b = false) ∧ RowKit.Below w.heap.size w w' := by
  have hsz : (⟨l.toArray⟩ : ByteArray).size = l.length := size_bv l
  have htab := num_tab lv hg
  have he1 : w.cell? ⟨4, 0, none⟩ = some lv.es := glb_first (x := .val lv.es) hg rfl
  have he2 : w.cell? ⟨5, 0, none⟩ = some lv.er := glb_first (x := .val lv.er) hg rfl
  unfold bv
  cases h : Lib.atoiAll l with
  | ok v =>
    obtain ⟨v0, v1⟩ := Lib.atoiAll_bounds h
    have hn : num l = if Lib.itoa v = l then some v else none := by unfold num; rw [h]
    rw [hn]
    have hB : ∀ W1, (W1 = w ∨ ∃ t, W1 = Lib.bytesWorld w 5 t) → Below w.heap.size w W1 := by
      rintro W1 (rfl | ⟨t, rfl⟩)
      · exact Below.refl _ _
      · exact Lib.bytesWorld_below w _ t
    have hT : ∀ W1, (W1 = w ∨ ∃ t, W1 = Lib.bytesWorld w 5 t) → Lib.TabIs Tryd.prog W1 "internal/strconv.uint64pow10" .u64 Lib.pow10Tab := fun W1 h1 => var_below (hB W1 h1) htab
    go_enter Tryd.func49, Tryd.ntmps49
    go_wp2_with (first | (go_at_call 60; refine (Tryd.strconv_Atoi_ok ⟨l.toArray⟩ (by rw [hsz]; omega) v h _).mono ?_; rintro e W1 ⟨rfl, hW⟩) | (go_at_call 32; refine (Tryd.strconv_Itoa v v0 v1 _ (hT _ hW)).mono ?_; rintro e W2 ⟨rfl, k, os, hW2⟩))
    · go_ret2
      exact ⟨v, rfl, ⟨v0, v1⟩, rfl, (hB _ hW).trans ((below_grow W1 k os).mono (hB _ hW).size)⟩
    · have hf : (Lib.itoa v == l) = false := by rw [beq_eq_false_iff_ne]; assumption
      rw [hf]
      go_ret2
      exact ⟨v, rfl, ⟨v0, v1⟩, (hB _ hW).trans ((below_grow W1 k os).mono (hB _ hW).size)⟩
  | «syntax» =>
    have hn : num l = none := by unfold num; rw [h]
    rw [hn]
    go_enter Tryd.func49, Tryd.ntmps49
    go_wp2_with (first | (go_at_call 60; refine (Tryd.strconv_Atoi_syntax ⟨l.toArray⟩ (by rw [hsz]; omega) h lv.es _ he1 lv.okS).mono ?_; rintro e W1 ⟨N, rfl, hN1, hN2, hB⟩) | (go_at_call 32; fail))
    go_ret2
    exact ⟨0, false, rfl, by unfold I64; omega, rfl, hB⟩
  | range =>
    have hn : num l = none := by unfold num; rw [h]
    rw [hn]
    go_enter Tryd.func49, Tryd.ntmps49
    go_wp2_with (first | (go_at_call 60; refine (Tryd.strconv_Atoi_range ⟨l.toArray⟩ (by rw [hsz]; omega) h lv.er _ he2 lv.okR).mono ?_; rintro e W1 ⟨N, rfl, hN1, hN2, hB⟩) | (go_at_call 32; fail))
    go_ret2
    exact ⟨_, false, rfl, by unfold I64 Lib.atoiSat; split <;> omega, rfl, hB⟩
theorem con_plainNumber (lv : LibV) : ConOK Tryd.prog (glb ++ lib lv) 49 sg_plainNumber SP_plainNumber := conOK_num (number_walk lv)


def sg_l6Dec : Sig := { args := [.s (.e (.var 0))], pre := [], tin := [.int .i64], gin := [], res := .c (.s (.e (.var 0))), post := [], tout := [.str], gout := [] }
theorem dec_conv (w : World) (t : TypeId) (x : Int) (fr : Nat × Nat) (g : Nat) (hg : g = w.heap.size) :
    (convert 30 9 (.slice (some ⟨g, 0, none⟩) 1 1)).run Tryd.prog (w.alloc (.cells #[.int .u8 x] t fr)) = .ok (.string ⟨#[UInt8.ofNat x.toNat]⟩) (w.alloc (.cells #[.int .u8 x] t fr)) := by
  subst hg
  have h := run_convert_bytes_arg (P := Tryd.prog) (w.alloc (.cells #[.int .u8 x] t fr)) 30 5 Tryd.underlying30 Tryd.underlying5 w.heap.size 0 1 1 [x] rfl (fun i hi => by
    have : i = 0 := by omega
    subst this
    rw [World.cell?_alloc_mark]
    rfl) 9 Tryd.underlying9
  exact h
theorem dec_conv_drew (w : World) (t : TypeId) (x : Int) (g : Nat) (hg : g = w.heap.size) :
    (convert 30 9 (.slice (some ⟨g, 0, none⟩) 1 1)).run Tryd.prog (w.alloc (.cells #[.int .u8 x] t)).drew = .ok (.string ⟨#[UInt8.ofNat x.toNat]⟩) (w.alloc (.cells #[.int .u8 x] t)).drew := by
  subst hg
  exact run_convert_bytes_arg (P := Tryd.prog) _ 30 5 Tryd.underlying30 Tryd.underlying5 w.heap.size 0 1 1 [x] rfl (fun i hi => by
    have : i = 0 := by omega
    subst this
    show (w.alloc _).cell? _ = _
    rw [World.cell?_alloc_mark]
    rfl) 9 Tryd.underlying9
theorem dec_conv_later {w W : World} {t : TypeId} {x : Int} (hb : RowKit.Below (w.alloc (.cells #[.int .u8 x] t)).drew.heap.size (w.alloc (.cells #[.int .u8 x] t)).drew W) (g : Nat) (hg : g = w.heap.size) :
    (convert 30 9 (.slice (some ⟨g, 0, none⟩) 1 1)).run Tryd.prog W = .ok (.string ⟨#[UInt8.ofNat x.toNat]⟩) W := by
  subst hg
  exact run_convert_bytes_arg (P := Tryd.prog) W 30 5 Tryd.underlying30 Tryd.underlying5 w.heap.size 0 1 1 [x] rfl (fun i hi => by
    have : i = 0 := by omega
    subst this
    rw [hb.cell (by show w.heap.size < (w.alloc _).heap.size; rw [World.size_alloc]; exact Nat.lt_succ_self _)]
    show (w.alloc _).cell? _ = _
    rw [World.cell?_alloc_mark]
    rfl) 9 Tryd.underlying9
theorem dec_one {n : Int} (h0 : 0 ≤ n) (h1 : n < 10) : Lib.itoa n = [UInt8.ofNat (48 + n).toNat] := by
  obtain ⟨u, rfl⟩ := Int.eq_ofNat_of_zero_le h0
  rw [Lib.itoa_nonneg, Lib.decDigits_one (by omega)]
  congr 2
theorem dec_step {n : Int} (h0 : 10 ≤ n) : Lib.itoa n = Lib.itoa (n / 10) ++ [UInt8.ofNat (48 + n % 10).toNat] := by
  obtain ⟨u, rfl⟩ := Int.eq_ofNat_of_zero_le (show 0 ≤ n by omega)
  have e : ((u : Int) / 10) = ((u / 10 : Nat) : Int) := by omega
  rw [e, Lib.itoa_nonneg, Lib.itoa_nonneg, Lib.decDigits, dif_neg (by omega)]
  congr 3
theorem dec_minus {n : Int} (h1 : n < 0) : Lib.itoa n = 45 :: Lib.itoa (-n) := by
  obtain ⟨u, hu⟩ := Int.eq_ofNat_of_zero_le (show 0 ≤ -n by omega)
  have e : n = -(u : Int) := by omega
  subst e
  rw [Lib.itoa_neg u (by omega), Int.neg_neg, Lib.itoa_nonneg]
theorem dec_b1 {w W1 : World} (h : RowKit.Below w.drew.heap.size w.drew W1) (o : Obj) : RowKit.Below w.heap.size w (W1.alloc o) :=
  RowKit.Below.alloc (((RowKit.Below.refl _ w).drew).trans h) h.size o
theorem dec_b2 {w W1 : World} {o : Obj} (h : RowKit.Below (w.alloc o).drew.heap.size (w.alloc o).drew W1) : RowKit.Below w.heap.size w W1 :=
  (((RowKit.Below.refl _ w).alloc (Nat.le_refl _) o).drew).trans (h.mono (by show w.heap.size ≤ (w.alloc o).heap.size; rw [World.size_alloc]; omega))
theorem dec_app (a b : List UInt8) : (⟨a.toArray⟩ ++ ⟨b.toArray⟩ : ByteArray) = ⟨(a ++ b).toArray⟩ := by
  apply ByteArray.ext
  simp
theorem dec_size {n : Int} (h0 : -9223372036854775808 ≤ n) (h1 : n ≤ 9223372036854775807) : (⟨(Lib.itoa n).toArray⟩ : ByteArray).size ≤ 21 := by
  rw [size_bv]
  exact Lib.itoa_length_le n h0 h1
set_option maxHeartbeats 800000 in
set_option maxRecDepth 1000000 in
theorem dec_small (n : Int) (w : World) (h0 : 0 ≤ n) (h1 : n < 10) : Calls Tryd.prog 30 #[.int .i64 n] w fun e w' => e = .returned (bv (Lib.itoa n)) ∧ RowKit.Below w.heap.size w w' := by
  have hA : ¬ n < -9223372036854775807 := by omega
  have hB : ¬ n < 0 := by omega
  have hcv := dec_conv
  have hcv2 := dec_conv_drew
  have hw := dec_one h0 h1
  go_enter Tryd.func30, Tryd.ntmps30
  go_wp2_with (first | (go_at_call 30; fail))
  all_goals go_ret
  all_goals exact ⟨rfl, RowKit.Below.alloc (RowKit.Below.refl _ _) (Nat.le_refl _) _⟩
set_option maxHeartbeats 3200000 in
set_option maxRecDepth 1000000 in
theorem dec_big (n : Int) (w : World) (h0 : 10 ≤ n) (h1 : n ≤ 9223372036854775807) (l : List UInt8) (hl : l.length ≤ 21) (ih : ∀ w, Calls Tryd.prog 30 #[.int .i64 (n / 10)] w fun e w' => e = .returned (.string ⟨l.toArray⟩) ∧ RowKit.Below w.heap.size w w') : Calls Tryd.prog 30 #[.int .i64 n] w fun e w' => e = .returned (.string ⟨(l ++ [UInt8.ofNat (48 + n % 10).toNat]).toArray⟩) ∧ RowKit.Below w.heap.size w w' := by
  have hA : ¬ n < -9223372036854775807 := by omega
  have hB : ¬ n < 0 := by omega
  have hC : ¬ n < 10 := by omega
  have hD : n.tdiv 10 = n / 10 := Int.tdiv_eq_ediv_of_nonneg (by omega)
  have hM : n.tmod 10 = n % 10 := Int.tmod_eq_emod_of_nonneg (by omega)
  have hL : ¬ 9223372036854775807 < l.length + 1 := by omega
  have hW1 : IntKind.i64.wrap (n / 10) = n / 10 := by apply wrap_of_range <;> simp only [IntKind.min, IntKind.max, IntKind.signed, IntKind.bits] <;> simp <;> omega
  have hW2 : IntKind.i64.wrap (48 + n % 10) = 48 + n % 10 := by apply wrap_of_range <;> simp only [IntKind.min, IntKind.max, IntKind.signed, IntKind.bits] <;> simp <;> omega
  have hW3 : IntKind.u8.wrap (48 + n % 10) = 48 + n % 10 := by apply wrap_of_range <;> simp only [IntKind.min, IntKind.max, IntKind.signed, IntKind.bits] <;> simp <;> omega
  have hcv := dec_conv
  have hcv2 := dec_conv_drew
  go_enter Tryd.func30, Tryd.ntmps30
  go_wp2_with (first | (go_at_call 30; fail))
  all_goals (go_region_with ((go_at_call 30; refine (ih _).mono ?_; rintro e W1 ⟨rfl, hb1⟩; try have hk : (convert 30 9 (.slice (some ⟨w.heap.size, 0, none⟩) 1 1)).run Tryd.prog W1 = _ := dec_conv_later hb1 _ rfl)))
  all_goals go_wp2
  all_goals go_ret
  all_goals refine ⟨congrArg (fun s => Ending.returned (.string s)) (dec_app l [UInt8.ofNat (48 + n % 10).toNat]), ?_⟩
  · exact dec_b1 hb1 _
  · exact dec_b2 hb1
  · exact dec_b2 hb1
set_option maxHeartbeats 800000 in
set_option maxRecDepth 1000000 in
theorem dec_neg (n : Int) (w : World) (h0 : -9223372036854775807 ≤ n) (h1 : n < 0) (hl : (Lib.itoa (-n)).length ≤ 21) (ih : ∀ w, Calls Tryd.prog 30 #[.int .i64 (-n)] w fun e w' => e = .returned (.string ⟨(Lib.itoa (-n)).toArray⟩) ∧ RowKit.Below w.heap.size w w') : Calls Tryd.prog 30 #[.int .i64 n] w fun e w' => e = .returned (bv (45 :: Lib.itoa (-n))) ∧ RowKit.Below w.heap.size w w' := by
  have hA : ¬ n < -9223372036854775807 := by omega
  have hB : n < 0 := h1
  have hL : ¬ 9223372036854775807 < 1 + (Lib.itoa (-n)).length := by omega
  unfold bv
  go_enter Tryd.func30, Tryd.ntmps30
  go_wp2_with (first | (go_at_call 30; refine (ih _).mono ?_; rintro e W1 ⟨rfl, hb1⟩))
  all_goals go_ret
  all_goals exact ⟨by congr 2, hb1⟩
set_option maxHeartbeats 800000 in
set_option maxRecDepth 1000000 in
theorem dec_least (w : World) : Calls Tryd.prog 30 #[.int .i64 (-9223372036854775808)] w fun e w' => e = .returned (bv (Lib.itoa (-9223372036854775808))) ∧ RowKit.Below w.heap.size w w' := by
  have hw : Lib.itoa (-9223372036854775808) = "-9223372036854775808".toUTF8.data.toList := by decide +kernel
  rw [hw]
  go_enter Tryd.func30, Tryd.ntmps30
  go_wp2_with (first | (go_at_call 30; fail))
  all_goals go_ret
  all_goals exact ⟨rfl, RowKit.Below.refl _ _⟩
theorem dec_pos : ∀ (b : Nat) (n : Int) (w : World), 0 ≤ n → n ≤ 9223372036854775807 → n ≤ b → Calls Tryd.prog 30 #[.int .i64 n] w fun e w' => e = .returned (bv (Lib.itoa n)) ∧ RowKit.Below w.heap.size w w'
  | b, n, w, h0, h1, hb => by
    by_cases h : n < 10
    · exact dec_small n w h0 h
    · cases b with
      | zero => exact absurd hb (by omega)
      | succ b =>
        refine (dec_big n w (by omega) h1 (Lib.itoa (n / 10)) (Lib.itoa_length_le _ (by omega) (by omega)) fun w' => dec_pos b (n / 10) w' (by omega) (by omega) (by omega)).mono ?_
        rintro e w' ⟨rfl, hB⟩
        refine ⟨?_, hB⟩
        rw [dec_step (n := n) (by omega)]
        rfl
theorem dec_walk (n : Int) (w : World) (h0 : -9223372036854775808 ≤ n) (h1 : n ≤ 9223372036854775807) : Calls Tryd.prog 30 #[.int .i64 n] w fun e w' => e = .returned (bv (Lib.itoa n)) ∧ RowKit.Below w.heap.size w w' := by
  by_cases hp : 0 ≤ n
  · exact dec_pos n.toNat n w hp h1 (by omega)
  · by_cases hm : n = -9223372036854775808
    · subst hm; exact dec_least w
    · rw [dec_minus (by omega)]
      exact dec_neg n w (by omega) (by omega) (Lib.itoa_length_le _ (by omega) (by omega)) fun w' => dec_pos (-n).toNat (-n) w' (by omega) (by omega) (by omega)
theorem con_l6Dec (lv : LibV) : ConOK Tryd.prog (glb ++ lib lv) 30 sg_l6Dec SP_l6Dec := conOK_itoa fun n w _ h0 h1 => dec_walk n w h0 h1


def sg_l7Cut : Sig := { args := [.s (.e (.var 0)), .s (.e (.var 1))], pre := [], tin := [.str, .int .u8], gin := [], res := .c (.s (.e (.var 0))), post := [], tout := [.sl, .rowC [.str]], gout := [(0, 1, 1)] }
def cl_l7Cut : List (Nat × Sig) := []
theorem run_l7Cut : (fun H : List (Nat × List Sc) => run ⟨Tryd.prog, glb ++ H, cl_l7Cut⟩ [(0, ⟨[(7, .int .i64), (6, .int .i64), (5, .sl)], [], some (2, .rowC [.str], 1, 9)⟩)] Tryd.f27 sg_l7Cut (Tryd.f27.body.getD .skip)) = fun _ => tr_l7Cut := by kernel_rfl
theorem om_l7Cut (lv : LibV) : ΩOK ⟨Tryd.prog, (glb ++ lib lv), cl_l7Cut⟩ (specsOf Fs_l7Cut) := ΩOK_nil
theorem con_l7Cut (lv : LibV) : ConOK Tryd.prog (glb ++ lib lv) 27 sg_l7Cut SP_l7Cut := conOK_of (om_l7Cut lv) mixed Tryd.func27 (by kernel_rfl) (congrFun run_l7Cut (lib lv)) (fun ins K ht h => sat_l7Cut Tryd.prog ins K ht h)

def sg_l7Number : Sig := { args := [.s (.e (.var 0))], pre := [], tin := [.str], gin := [], res := .tu [.s (.e (.var 0)), .s (.e (.var 1))], post := [], tout := [.int .i64, .bool], gout := [] }
def cl_l7Number : List (Nat × Sig) := [(39, sg_l6In), (30, sg_l6Dec)]
theorem run_l7Number : (fun H : List (Nat × List Sc) => run ⟨Tryd.prog, glb ++ H, cl_l7Number⟩ [(0, ⟨[(6, .int .i64), (5, .int .i64), (4, .int .i64)], [], none⟩)] Tryd.f47 sg_l7Number (Tryd.f47.body.getD .skip)) = fun _ => tr_l7Number := by kernel_rfl
theorem om_l7Number (lv : LibV) : ΩOK ⟨Tryd.prog, (glb ++ lib lv), cl_l7Number⟩ Ss_l7Number := (ΩOK_consS (cong_l6In lv) Tryd.call39 (ΩOK_consS (con_l6Dec lv) Tryd.call30 ΩOK_nilS))
theorem con_l7Number (lv : LibV) : ConOK Tryd.prog (glb ++ lib lv) 47 sg_l7Number SP_l7Number := conOK_of (om_l7Number lv) mixed Tryd.func47 (by kernel_rfl) (congrFun run_l7Number (lib lv)) (fun ins K ht h => sat_l7Number Tryd.prog ins K ht h)

def sg_l7One : Sig := { args := [.s (.e (.var 0))], pre := [], tin := [.str], gin := [], res := .tu [.ag [.e (.var 0), .e (.var 1)], .s (.e (.var 2))], post := [], tout := [.int .u8, .sl, .bool, .row .i64 1], gout := [(1, 3, 1)] }
def cl_l7One : List (Nat × Sig) := [(27, sg_l7Cut), (47, sg_l7Number), (29, sg_l5Direction), (39, sg_l6In)]
theorem run_l7One : (fun H : List (Nat × List Sc) => run ⟨Tryd.prog, glb ++ H, cl_l7One⟩ [(0, ⟨[(6, .int .i64)], [(1, 1, .sl)], some (1, .row .i64 1, 1, 3)⟩)] Tryd.f35 sg_l7One (Tryd.f35.body.getD .skip)) = fun _ => tr_l7One := by kernel_rfl
theorem om_l7One (lv : LibV) : ΩOK ⟨Tryd.prog, (glb ++ lib lv), cl_l7One⟩ Ss_l7One := (ΩOK_consS (con_l7Cut lv) Tryd.call27 (ΩOK_consS (con_l7Number lv) Tryd.call47 (ΩOK_consS (cong_l5Direction lv) Tryd.call29 (ΩOK_consS (cong_l6In lv) Tryd.call39 ΩOK_nilS))))
theorem con_l7One (lv : LibV) : ConOK Tryd.prog (glb ++ lib lv) 35 sg_l7One SP_l7One := conOK_of (om_l7One lv) mixed Tryd.func35 (by kernel_rfl) (congrFun run_l7One (lib lv)) (fun ins K ht h => sat_l7One Tryd.prog ins K ht h)

def sg_l7Bench : Sig := { args := [.s (.e (.var 0))], pre := [], tin := [.str], gin := [], res := .tu [.s (.e (.var 0)), .s (.e (.var 1))], post := [], tout := [.sl, .bool, .rowC [.int .u8, .fat .i64 1]], gout := [(0, 2, 2)] }
def cl_l7Bench : List (Nat × Sig) := [(27, sg_l7Cut), (35, sg_l7One)]
theorem run_l7Bench : (fun H : List (Nat × List Sc) => run ⟨Tryd.prog, glb ++ H, cl_l7Bench⟩ [(0, ⟨[(6, .int .i64), (4, .sl)], [], some (1, .rowC [.int .u8, .fat .i64 1], 2, 55)⟩)] Tryd.f24 sg_l7Bench (Tryd.f24.body.getD .skip)) = fun _ => tr_l7Bench := by kernel_rfl
theorem om_l7Bench (lv : LibV) : ΩOK ⟨Tryd.prog, (glb ++ lib lv), cl_l7Bench⟩ Ss_l7Bench := (ΩOK_consS (con_l7Cut lv) Tryd.call27 (ΩOK_consS (con_l7One lv) Tryd.call35 ΩOK_nilS))
theorem con_l7Bench (lv : LibV) : ConOK Tryd.prog (glb ++ lib lv) 24 sg_l7Bench SP_l7Bench := conOK_of (om_l7Bench lv) mixed Tryd.func24 (by kernel_rfl) (congrFun run_l7Bench (lib lv)) (fun ins K ht h => sat_l7Bench Tryd.prog ins K ht h)

def sg_readPiece : Sig := { args := [.s (.e (.var 0))], pre := [], tin := [.str], gin := [], res := .tu [.ag [.e (.var 0), .e (.var 1), .e (.var 2)], .s (.e (.var 3))], post := [], tout := [.int .u8, .sl, .str, .bool, .row .i64 1], gout := [(1, 4, 1)] }
def cl_readPiece : List (Nat × Sig) := [(36, sg_Split), (49, sg_plainNumber), (31, sg_direction), (41, sg_within)]
theorem run_readPiece : (fun H : List (Nat × List Sc) => run ⟨Tryd.prog, glb ++ H, cl_readPiece⟩ [(0, ⟨[(25, .int .i64)], [(1, 1, .sl)], some (1, .row .i64 1, 1, 3)⟩)] Tryd.f37 sg_readPiece (Tryd.f37.body.getD .skip)) = fun _ => tr_readPiece := by kernel_rfl
theorem om_readPiece (lv : LibV) : ΩOK ⟨Tryd.prog, (glb ++ lib lv), cl_readPiece⟩ Ss_readPiece := (ΩOK_consS (con_Split lv) Tryd.call36 (ΩOK_consS (con_plainNumber lv) Tryd.call49 (ΩOK_consS (cong_direction lv) Tryd.call31 (ΩOK_consS (cong_within lv) Tryd.call41 ΩOK_nilS))))
theorem con_readPiece (lv : LibV) : ConOK Tryd.prog (glb ++ lib lv) 37 sg_readPiece SP_readPiece := conOK_of (om_readPiece lv) mixed Tryd.func37 (by kernel_rfl) (congrFun run_readPiece (lib lv)) (fun ins K ht h => sat_readPiece Tryd.prog ins K ht h)

def sg_readBench : Sig := { args := [.s (.e (.var 0))], pre := [], tin := [.str], gin := [], res := .tu [.s (.e (.var 0)), .s (.e (.var 1))], post := [], tout := [.sl, .bool, .rowC [.int .u8, .fat .i64 1, .str]], gout := [(0, 2, 3)], gown := some (0, 2, 3, 45) }
def cl_readBench : List (Nat × Sig) := [(36, sg_Split), (37, sg_readPiece)]
theorem run_readBench : (fun H : List (Nat × List Sc) => run ⟨Tryd.prog, glb ++ H, cl_readBench⟩ [(0, ⟨[(16, .int .i64), (4, .sl)], [], some (1, .rowC [.int .u8, .fat .i64 1, .str], 3, 45)⟩)] Tryd.f25 sg_readBench (Tryd.f25.body.getD .skip)) = fun _ => tr_readBench := by kernel_rfl
theorem om_readBench (lv : LibV) : ΩOK ⟨Tryd.prog, (glb ++ lib lv), cl_readBench⟩ Ss_readBench := (ΩOK_consS (con_Split lv) Tryd.call36 (ΩOK_consS (con_readPiece lv) Tryd.call37 ΩOK_nilS))
theorem con_readBench (lv : LibV) : ConOK Tryd.prog (glb ++ lib lv) 25 sg_readBench SP_readBench := conOK_of (om_readBench lv) mixed Tryd.func25 (by kernel_rfl) (congrFun run_readBench (lib lv)) (fun ins K ht h => sat_readBench Tryd.prog ins K ht h)

def sg_writeBenchS : Sig := { args := [.s (.e (.var 0))], pre := [], tin := [.sl, .rowC [.int .u8, .sl, .str]], gin := [(0, 1, 3)], res := .c (.s (.e (.var 0))), post := [], tout := [.str], gout := [] }
def cl_writeBenchS : List (Nat × Sig) := [(38, sg_Join)]
theorem run_writeBenchS : (fun H : List (Nat × List Sc) => run ⟨Tryd.prog, glb ++ H, cl_writeBenchS⟩ [(0, ⟨[(9, .int .i64), (3, .sl)], [], some (1, .rowC [.str], 1, 9)⟩)] Tryd.f26 sg_writeBenchS (Tryd.f26.body.getD .skip)) = fun _ => tr_writeBenchS := by kernel_rfl
theorem om_writeBenchS (lv : LibV) : ΩOK ⟨Tryd.prog, (glb ++ lib lv), cl_writeBenchS⟩ Ss_writeBenchS := (ΩOK_consS (con_Join lv) Tryd.call38 ΩOK_nilS)
theorem con_writeBenchS (lv : LibV) : ConOK Tryd.prog (glb ++ lib lv) 26 sg_writeBenchS SP_writeBenchS := conOK_of (om_writeBenchS lv) mixed Tryd.func26 (by kernel_rfl) (congrFun run_writeBenchS (lib lv)) (fun ins K ht h => sat_writeBenchS Tryd.prog ins K ht h)

def sg_revP : Sig := { args := [.s (.e (.var 0))], pre := [], tin := [.sl, .rowC [.int .u8, .fat .i64 1, .str]], gin := [(0, 1, 3)], res := .c (.s (.e (.var 0))), post := [], tout := [.sl, .rowC [.int .u8, .sl, .str]], gout := [(0, 1, 3)] }
def cl_revP : List (Nat × Sig) := []
theorem run_revP : (fun H : List (Nat × List Sc) => run ⟨Tryd.prog, glb ++ H, cl_revP⟩ [(0, ⟨[(4, .int .i64), (3, .sl)], [], some (1, .rowC [.int .u8, .sl, .str], 3, 45)⟩)] Tryd.f28 sg_revP (Tryd.f28.body.getD .skip)) = fun _ => tr_revP := by kernel_rfl
theorem om_revP (lv : LibV) : ΩOK ⟨Tryd.prog, (glb ++ lib lv), cl_revP⟩ (specsOf Fs_revP) := ΩOK_nil
theorem con_revP (lv : LibV) : ConOK Tryd.prog (glb ++ lib lv) 28 sg_revP SP_revP := conOK_of (om_revP lv) mixed Tryd.func28 (by kernel_rfl) (congrFun run_revP (lib lv)) (fun ins K ht h => sat_revP Tryd.prog ins K ht h)

def sg_sBenchValid : Sig := { args := [.s (.e (.var 0))], pre := [], tin := [.str], gin := [], res := .c (.s (.e (.var 0))), post := [], tout := [.bool], gout := [] }
def cl_sBenchValid : List (Nat × Sig) := [(24, sg_l7Bench)]
theorem run_sBenchValid : (fun H : List (Nat × List Sc) => run ⟨Tryd.prog, glb ++ H, cl_sBenchValid⟩ [] Tryd.f11 sg_sBenchValid (Tryd.f11.body.getD .skip)) = fun _ => tr_sBenchValid := by kernel_rfl
theorem om_sBenchValid (lv : LibV) : ΩOK ⟨Tryd.prog, (glb ++ lib lv), cl_sBenchValid⟩ Ss_sBenchValid := (ΩOK_consS (con_l7Bench lv) Tryd.call24 ΩOK_nilS)
theorem con_sBenchValid (lv : LibV) : ConOK Tryd.prog (glb ++ lib lv) 11 sg_sBenchValid SP_sBenchValid := conOK_of (om_sBenchValid lv) mixed Tryd.func11 (by kernel_rfl) (congrFun run_sBenchValid (lib lv)) (fun ins K ht h => sat_sBenchValid Tryd.prog ins K ht h)

def sg_iBenchPieces : Sig := { args := [.s (.e (.var 0))], pre := [], tin := [.str], gin := [], res := .c (.s (.e (.var 0))), post := [], tout := [.int .i64], gout := [] }
def cl_iBenchPieces : List (Nat × Sig) := [(25, sg_readBench)]
theorem run_iBenchPieces : (fun H : List (Nat × List Sc) => run ⟨Tryd.prog, glb ++ H, cl_iBenchPieces⟩ [] Tryd.f14 sg_iBenchPieces (Tryd.f14.body.getD .skip)) = fun _ => tr_iBenchPieces := by kernel_rfl
theorem om_iBenchPieces (lv : LibV) : ΩOK ⟨Tryd.prog, (glb ++ lib lv), cl_iBenchPieces⟩ Ss_iBenchPieces := (ΩOK_consS (con_readBench lv) Tryd.call25 ΩOK_nilS)
theorem con_iBenchPieces (lv : LibV) : ConOK Tryd.prog (glb ++ lib lv) 14 sg_iBenchPieces SP_iBenchPieces := conOK_of (om_iBenchPieces lv) mixed Tryd.func14 (by kernel_rfl) (congrFun run_iBenchPieces (lib lv)) (fun ins K ht h => sat_iBenchPieces Tryd.prog ins K ht h)

def sg_iBenchBack : Sig := { args := [.s (.e (.var 0))], pre := [], tin := [.str], gin := [], res := .tu [.s (.e (.var 0)), .s (.e (.var 1))], post := [], tout := [.str, .bool], gout := [] }
def cl_iBenchBack : List (Nat × Sig) := [(25, sg_readBench), (28, sg_revP), (26, sg_writeBenchS)]
theorem run_iBenchBack : (fun H : List (Nat × List Sc) => run ⟨Tryd.prog, glb ++ H, cl_iBenchBack⟩ [] Tryd.f18 sg_iBenchBack (Tryd.f18.body.getD .skip)) = fun _ => tr_iBenchBack := by kernel_rfl
theorem om_iBenchBack (lv : LibV) : ΩOK ⟨Tryd.prog, (glb ++ lib lv), cl_iBenchBack⟩ Ss_iBenchBack := (ΩOK_consS (con_readBench lv) Tryd.call25 (ΩOK_consS (con_revP lv) Tryd.call28 (ΩOK_consS (con_writeBenchS lv) Tryd.call26 ΩOK_nilS)))
theorem con_iBenchBack (lv : LibV) : ConOK Tryd.prog (glb ++ lib lv) 18 sg_iBenchBack SP_iBenchBack := conOK_of (om_iBenchBack lv) mixed Tryd.func18 (by kernel_rfl) (congrFun run_iBenchBack (lib lv)) (fun ins K ht h => sat_iBenchBack Tryd.prog ins K ht h)

def sg_sBenchBack : Sig := { args := [.s (.e (.var 0))], pre := [], tin := [.str], gin := [], res := .tu [.s (.e (.var 0)), .s (.e (.var 1))], post := [], tout := [.str, .bool], gout := [] }
def cl_sBenchBack : List (Nat × Sig) := [(11, sg_sBenchValid), (27, sg_l7Cut)]
theorem run_sBenchBack : (fun H : List (Nat × List Sc) => run ⟨Tryd.prog, glb ++ H, cl_sBenchBack⟩ [(0, ⟨[(6, .int .i64), (5, .str)], [], none⟩)] Tryd.f17 sg_sBenchBack (Tryd.f17.body.getD .skip)) = fun _ => tr_sBenchBack := by kernel_rfl
theorem om_sBenchBack (lv : LibV) : ΩOK ⟨Tryd.prog, (glb ++ lib lv), cl_sBenchBack⟩ Ss_sBenchBack := (ΩOK_consS (con_sBenchValid lv) Tryd.call11 (ΩOK_consS (con_l7Cut lv) Tryd.call27 ΩOK_nilS))
theorem con_sBenchBack (lv : LibV) : ConOK Tryd.prog (glb ++ lib lv) 17 sg_sBenchBack SP_sBenchBack := conOK_of (om_sBenchBack lv) mixed Tryd.func17 (by kernel_rfl) (congrFun run_sBenchBack (lib lv)) (fun ins K ht h => sat_sBenchBack Tryd.prog ins K ht h)

def sg_ofG : Sig := { args := [.s (.p (.own 0) 0), .s (.e (.var 0))], pre := [⟨[.e (.var 1), .e (.var 2)], 68⟩], tin := [.sl, .sl, .int .i64, .rowC [.str]], gin := [(0, 3, 1)], res := .c (.s (.e (.var 0))), post := [⟨[.e (.var 1), .e (.var 2)], 68⟩], tout := [.str, .sl, .int .i64], gout := [] }
def cl_ofG : List (Nat × Sig) := [(44, sg_pickC)]
theorem run_ofG : (fun H : List (Nat × List Sc) => run ⟨Tryd.prog, glb ++ H, cl_ofG⟩ [] Tryd.f46 sg_ofG (Tryd.f46.body.getD .skip)) = fun _ => tr_ofG := by kernel_rfl
theorem om_ofG (lv : LibV) {cb : CodeB} (hk : CodeOk cb) (hG : Known cb (glb ++ lib lv ++ cb.tail)) : ΩOK ⟨Tryd.prog, glb ++ lib lv ++ cb.tail, cl_ofG⟩ (Ss_ofG cb) := (ΩOK_consS (con_pickC lv hk hG) Tryd.call44 ΩOK_nilS)
theorem con_ofG (lv : LibV) {cb : CodeB} (hk : CodeOk cb) (hG : Known cb (glb ++ lib lv ++ cb.tail)) : ConOK Tryd.prog (glb ++ lib lv ++ cb.tail) 46 sg_ofG (SP_ofG cb) := conOK_of (om_ofG lv hk hG) mixed Tryd.func46 (by kernel_rfl) (congrFun run_ofG (lib lv ++ cb.tail)) (fun ins K ht h => sat_ofG Tryd.prog cb hk ins K ht h)

def sg_ofC : Sig := { args := [.s (.p (.own 0) 0), .s (.sl (.own 1) 0 8 8)], pre := [⟨[.e (.var 0), .e (.var 1)], 68⟩, ⟨[.e (.var 2), .e (.var 3), .e (.var 4), .e (.var 5), .e (.var 6), .e (.var 7), .e (.var 8), .e (.var 9)], 9⟩], tin := [.sl, .int .i64, .str, .str, .str, .str, .str, .str, .str, .str], gin := [], res := .c (.s (.e (.var 0))), post := [⟨[.e (.var 1), .e (.var 2)], 68⟩, ⟨[.e (.var 3), .e (.var 4), .e (.var 5), .e (.var 6), .e (.var 7), .e (.var 8), .e (.var 9), .e (.var 10)], 9⟩], tout := [.str, .sl, .int .i64, .str, .str, .str, .str, .str, .str, .str, .str], gout := [] }
theorem con_ofC (lv : LibV) {cb : CodeB} (hk : CodeOk cb) (hG : Known cb (glb ++ lib lv ++ cb.tail)) : ConOK Tryd.prog (glb ++ lib lv ++ cb.tail) 46 sg_ofC (SP_ofC cb) := conOK_of8d (t := 68) (ts := 9) (con_ofG lv hk hG)


def sg_l92Piece : Sig := { args := [.s (.p (.own 0) 0), .s (.e (.var 0))], pre := [⟨[.e (.var 1), .e (.var 2)], 68⟩], tin := [.bool, .sl, .int .i64], gin := [], res := .c (.s (.e (.var 0))), post := [⟨[.e (.var 1), .e (.var 2)], 68⟩], tout := [.str, .sl, .int .i64], gout := [] }
def cl_l92Piece : List (Nat × Sig) := [(44, sg_pickC), (30, sg_l6Dec)]
theorem run_l92Piece : (fun H : List (Nat × List Sc) => run ⟨Tryd.prog, glb ++ H, cl_l92Piece⟩ [] Tryd.f45 sg_l92Piece (Tryd.f45.body.getD .skip)) = fun _ => tr_l92Piece := by kernel_rfl
theorem om_l92Piece (lv : LibV) {cb : CodeB} (hk : CodeOk cb) (hG : Known cb (glb ++ lib lv ++ cb.tail)) : ΩOK ⟨Tryd.prog, glb ++ lib lv ++ cb.tail, cl_l92Piece⟩ (Ss_l92Piece cb) := (ΩOK_consS (con_pickC lv hk hG) Tryd.call44 (ΩOK_consS (con_l6Dec lv).more Tryd.call30 ΩOK_nilS))
theorem con_l92Piece (lv : LibV) {cb : CodeB} (hk : CodeOk cb) (hG : Known cb (glb ++ lib lv ++ cb.tail)) : ConOK Tryd.prog (glb ++ lib lv ++ cb.tail) 45 sg_l92Piece (SP_l92Piece cb) := conOK_of (om_l92Piece lv hk hG) mixed Tryd.func45 (by kernel_rfl) (congrFun run_l92Piece (lib lv ++ cb.tail)) (fun ins K ht h => sat_l92Piece Tryd.prog cb hk ins K ht h)

def sg_l92Bench : Sig := { args := [.s (.p (.own 0) 0), .s (.e (.var 0))], pre := [⟨[.e (.var 1), .e (.var 2)], 68⟩], tin := [.bool, .sl, .int .i64], gin := [], res := .c (.s (.e (.var 0))), post := [⟨[.e (.var 1), .e (.var 2)], 68⟩], tout := [.str, .sl, .int .i64], gout := [] }
def cl_l92Bench : List (Nat × Sig) := [(44, sg_pickC), (45, sg_l92Piece), (46, sg_ofC)]
theorem run_l92Bench : (fun H : List (Nat × List Sc) => run ⟨Tryd.prog, glb ++ H, cl_l92Bench⟩ [(0, ⟨[(7, .int .i64), (5, .str)], [(0, 0, .sl), (0, 1, .int .i64)], none⟩)] Tryd.f33 sg_l92Bench (Tryd.f33.body.getD .skip)) = fun _ => tr_l92Bench := by kernel_rfl
theorem om_l92Bench (lv : LibV) {cb : CodeB} (hk : CodeOk cb) (hG : Known cb (glb ++ lib lv ++ cb.tail)) : ΩOK ⟨Tryd.prog, glb ++ lib lv ++ cb.tail, cl_l92Bench⟩ (Ss_l92Bench cb) := (ΩOK_consS (con_pickC lv hk hG) Tryd.call44 (ΩOK_consS (con_l92Piece lv hk hG) Tryd.call45 (ΩOK_consS (con_ofC lv hk hG) Tryd.call46 ΩOK_nilS)))
theorem con_l92Bench (lv : LibV) {cb : CodeB} (hk : CodeOk cb) (hG : Known cb (glb ++ lib lv ++ cb.tail)) : ConOK Tryd.prog (glb ++ lib lv ++ cb.tail) 33 sg_l92Bench (SP_l92Bench cb) := conOK_of (om_l92Bench lv hk hG) mixed Tryd.func33 (by kernel_rfl) (congrFun run_l92Bench (lib lv ++ cb.tail)) (fun ins K ht h => sat_l92Bench Tryd.prog cb hk ins K ht h)

def sg_DrawBenchBack : Sig := { args := [.s (.e (.var 0))], pre := [], tin := [.sl], gin := [], res := .c (.s (.e (.var 0))), post := [], tout := [.str], gout := [] }
def cl_DrawBenchBack : List (Nat × Sig) := [(34, sg_openC), (33, sg_l92Bench)]
theorem run_DrawBenchBack : (fun H : List (Nat × List Sc) => run ⟨Tryd.prog, glb ++ H, cl_DrawBenchBack⟩ [] Tryd.f23 sg_DrawBenchBack (Tryd.f23.body.getD .skip)) = fun _ => tr_DrawBenchBack := by kernel_rfl
theorem om_DrawBenchBack (lv : LibV) {cb : CodeB} (hk : CodeOk cb) (hG : Known cb (glb ++ lib lv ++ cb.tail)) : ΩOK ⟨Tryd.prog, glb ++ lib lv ++ cb.tail, cl_DrawBenchBack⟩ (Ss_DrawBenchBack cb) := (ΩOK_consS (con_openC lv hk hG) Tryd.call34 (ΩOK_consS (con_l92Bench lv hk hG) Tryd.call33 ΩOK_nilS))
theorem con_DrawBenchBack (lv : LibV) {cb : CodeB} (hk : CodeOk cb) (hG : Known cb (glb ++ lib lv ++ cb.tail)) : ConOK Tryd.prog (glb ++ lib lv ++ cb.tail) 23 sg_DrawBenchBack (SP_DrawBenchBack cb) := conOK_of (om_DrawBenchBack lv hk hG) mixed Tryd.func23 (by kernel_rfl) (congrFun run_DrawBenchBack (lib lv ++ cb.tail)) (fun ins K ht h => sat_DrawBenchBack Tryd.prog cb hk ins K ht h)

def sg_FnBenchBack : Sig := { args := [.s (.e (.var 0))], pre := [], tin := [.sl], gin := [], res := .c (.s (.e (.var 0))), post := [], tout := [.bool], gout := [] }
def cl_FnBenchBack : List (Nat × Sig) := [(23, sg_DrawBenchBack), (18, sg_iBenchBack), (17, sg_sBenchBack), (14, sg_iBenchPieces)]
theorem run_FnBenchBack : (fun H : List (Nat × List Sc) => run ⟨Tryd.prog, glb ++ H, cl_FnBenchBack⟩ [] Tryd.f10 sg_FnBenchBack (Tryd.f10.body.getD .skip)) = fun _ => tr_FnBenchBack := by kernel_rfl
theorem om_FnBenchBack (lv : LibV) {cb : CodeB} (hk : CodeOk cb) (hG : Known cb (glb ++ lib lv ++ cb.tail)) : ΩOK ⟨Tryd.prog, glb ++ lib lv ++ cb.tail, cl_FnBenchBack⟩ (Ss_FnBenchBack cb) := (ΩOK_consS (con_DrawBenchBack lv hk hG) Tryd.call23 (ΩOK_consS (con_iBenchBack lv).more Tryd.call18 (ΩOK_consS (con_sBenchBack lv).more Tryd.call17 (ΩOK_consS (con_iBenchPieces lv).more Tryd.call14 ΩOK_nilS))))
theorem con_FnBenchBack (lv : LibV) {cb : CodeB} (hk : CodeOk cb) (hG : Known cb (glb ++ lib lv ++ cb.tail)) : ConOK Tryd.prog (glb ++ lib lv ++ cb.tail) 10 sg_FnBenchBack (lawF cb).spec := conOK_of (om_FnBenchBack lv hk hG) mixed Tryd.func10 (by kernel_rfl) (congrFun run_FnBenchBack (lib lv ++ cb.tail)) (fun ins K ht h => sat_FnBenchBack Tryd.prog cb hk ins K ht h.1 h.2)

end Go.Proofs.YtlikihnmfdlpbaaDoor

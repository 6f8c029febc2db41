import Derived.Test.YtidldoahiddpgaaGreatDoorRkAFnBenchRead
import Derived.KernelRfl
namespace Go.Sx
open Go
set_option maxRecDepth 100000
set_option linter.unusedSimpArgs false
set_option linter.unusedVariables false
set_option maxHeartbeats 2000000 in
theorem sat_l92Piece (P : Program) (cb : CodeB) (hk : CodeOk cb) (ins : List Value) (K : List Value → Prop) (_ : TypedL [.bool, .sl, .int .i64] ins) (h : SP_l92Piece cb ins K) : sat P (Ss_l92Piece cb) tr_l92Piece ins [] K := by
  obtain ⟨f, b, z, rfl, hb, h0, hz, hK⟩ := h
  cases f with
  | false =>
    refine evs_step ?_
    refine pk_step hk rfl 5 rfl rfl rfl (by omega) hb (by omega) fun x1 x1l x1h => ?_
    refine dec_step1 rfl (x1 - 2) (ar_sub rfl rfl (by omega)) (by omega) fun v2 hv2 => ?_
    refine evs_nil ?_
    refine evs_step ?_
    refine pk_step hk rfl 2 rfl rfl rfl (by omega) hb (by omega) fun x3 x3l x3h => ?_
    refine dec_step1 rfl (1 + x3) (ar_add rfl rfl (by omega)) (by omega) fun v4 hv4 => ?_
    refine evs_nil ?_
    refine evs_step ?_
    refine pk_step hk rfl 5 rfl rfl rfl (by omega) hb (by omega) fun x5 x5l x5h => ?_
    refine evs_nil ?_
    refine ⟨fun _ => ?_, fun _ => ?_⟩
    · refine evs_step ?_
      refine needs_sh (sh_c [114]) hv2 (by decide) ?_
      refine needs_sh (sh_scat (sh_c [114]) hv2) (sh_c [58]) (by decide) ?_
      refine needs_sh (sh_scat (sh_scat (sh_c [114]) hv2) (sh_c [58])) hv4 (by decide) ?_
      refine evs_nil ?_
      exact hK _ _ _ (sh_mono (sh_scat (sh_scat (sh_scat (sh_c [114]) hv2) (sh_c [58])) hv4) (by decide)) hb (by omega) (by omega)
    · refine ⟨fun _ => ?_, fun _ => ?_⟩
      · refine ⟨fun _ => ?_, fun _ => ?_⟩
        · refine evs_step ?_
          refine needs_sh (sh_c [119]) hv2 (by decide) ?_
          refine needs_sh (sh_scat (sh_c [119]) hv2) (sh_c [58]) (by decide) ?_
          refine needs_sh (sh_scat (sh_scat (sh_c [119]) hv2) (sh_c [58])) hv4 (by decide) ?_
          refine needs_sh (sh_scat (sh_scat (sh_scat (sh_c [119]) hv2) (sh_c [58])) hv4) (sh_c [58]) (by decide) ?_
          refine pk_step hk rfl 4 rfl rfl rfl (by omega) hb (by omega) fun x6 x6l x6h => ?_
          refine dec_step1 rfl x6 rfl (by omega) fun v7 hv7 => ?_
          refine needs_sh (sh_scat (sh_scat (sh_scat (sh_scat (sh_c [119]) hv2) (sh_c [58])) hv4) (sh_c [58])) hv7 (by decide) ?_
          refine evs_nil ?_
          exact hK _ _ _ (sh_mono (sh_scat (sh_scat (sh_scat (sh_scat (sh_scat (sh_c [119]) hv2) (sh_c [58])) hv4) (sh_c [58])) hv7) (by decide)) hb (by omega) (by omega)
        · refine ⟨fun _ => ?_, fun _ => ?_⟩
          · refine evs_step ?_
            refine needs_sh (sh_c [102]) hv2 (by decide) ?_
            refine needs_sh (sh_scat (sh_c [102]) hv2) (sh_c [58]) (by decide) ?_
            refine needs_sh (sh_scat (sh_scat (sh_c [102]) hv2) (sh_c [58])) hv4 (by decide) ?_
            refine evs_nil ?_
            exact hK _ _ _ (sh_mono (sh_scat (sh_scat (sh_scat (sh_c [102]) hv2) (sh_c [58])) hv4) (by decide)) hb (by omega) (by omega)
          · refine evs_step ?_
            refine pk_step hk rfl 4 rfl rfl rfl (by omega) hb (by omega) fun x8 x8l x8h => ?_
            refine evs_nil ?_
            refine evs_step ?_
            refine callg_step rfl (fun h => by cases h) fun _ => ?_
            refine evs_nil ?_
            refine ⟨fun _ => ?_, fun _ => ?_⟩
            · refine evs_step ?_
              refine pk_step hk rfl ((1 + x8) + 1) (ar_add (ar_add rfl rfl (by omega)) rfl (by omega)) rfl rfl (by omega) hb (by omega) fun x9 x9l x9h => ?_
              refine dec_step1 rfl x9 rfl (by omega) fun v10 hv10 => ?_
              refine needs_sh (sh_c [100]) hv10 (by decide) ?_
              refine needs_sh (sh_scat (sh_c [100]) hv10) (sh_c [58]) (by decide) ?_
              refine dec_step1 rfl (1 + x8) (ar_add rfl rfl (by omega)) (by omega) fun v11 hv11 => ?_
              refine needs_sh (sh_scat (sh_scat (sh_c [100]) hv10) (sh_c [58])) hv11 (by decide) ?_
              refine evs_nil ?_
              exact hK _ _ _ (sh_mono (sh_scat (sh_scat (sh_scat (sh_c [100]) hv10) (sh_c [58])) hv11) (by decide)) hb (by omega) (by omega)
            · refine evs_step ?_
              refine pk_step hk rfl ((1 + x8) + 1) (ar_add (ar_add rfl rfl (by omega)) rfl (by omega)) rfl rfl (by omega) hb (by omega) fun x12 x12l x12h => ?_
              refine dec_step1 rfl x12 rfl (by omega) fun v13 hv13 => ?_
              refine needs_sh (sh_c [97]) hv13 (by decide) ?_
              refine needs_sh (sh_scat (sh_c [97]) hv13) (sh_c [58]) (by decide) ?_
              refine dec_step1 rfl (1 + x8) (ar_add rfl rfl (by omega)) (by omega) fun v14 hv14 => ?_
              refine needs_sh (sh_scat (sh_scat (sh_c [97]) hv13) (sh_c [58])) hv14 (by decide) ?_
              refine evs_nil ?_
              exact hK _ _ _ (sh_mono (sh_scat (sh_scat (sh_scat (sh_c [97]) hv13) (sh_c [58])) hv14) (by decide)) hb (by omega) (by omega)
      · refine ⟨fun _ => ?_, fun _ => ?_⟩
        · refine evs_step ?_
          refine needs_sh (sh_c [119]) hv2 (by decide) ?_
          refine needs_sh (sh_scat (sh_c [119]) hv2) (sh_c [58]) (by decide) ?_
          refine needs_sh (sh_scat (sh_scat (sh_c [119]) hv2) (sh_c [58])) hv4 (by decide) ?_
          refine needs_sh (sh_scat (sh_scat (sh_scat (sh_c [119]) hv2) (sh_c [58])) hv4) (sh_c [58]) (by decide) ?_
          refine pk_step hk rfl 4 rfl rfl rfl (by omega) hb (by omega) fun x15 x15l x15h => ?_
          refine dec_step1 rfl x15 rfl (by omega) fun v16 hv16 => ?_
          refine needs_sh (sh_scat (sh_scat (sh_scat (sh_scat (sh_c [119]) hv2) (sh_c [58])) hv4) (sh_c [58])) hv16 (by decide) ?_
          refine evs_nil ?_
          exact hK _ _ _ (sh_mono (sh_scat (sh_scat (sh_scat (sh_scat (sh_scat (sh_c [119]) hv2) (sh_c [58])) hv4) (sh_c [58])) hv16) (by decide)) hb (by omega) (by omega)
        · refine ⟨fun _ => ?_, fun _ => ?_⟩
          · refine evs_step ?_
            refine needs_sh (sh_c [102]) hv2 (by decide) ?_
            refine needs_sh (sh_scat (sh_c [102]) hv2) (sh_c [58]) (by decide) ?_
            refine needs_sh (sh_scat (sh_scat (sh_c [102]) hv2) (sh_c [58])) hv4 (by decide) ?_
            refine evs_nil ?_
            exact hK _ _ _ (sh_mono (sh_scat (sh_scat (sh_scat (sh_c [102]) hv2) (sh_c [58])) hv4) (by decide)) hb (by omega) (by omega)
          · refine evs_step ?_
            refine pk_step hk rfl 4 rfl rfl rfl (by omega) hb (by omega) fun x17 x17l x17h => ?_
            refine evs_nil ?_
            refine evs_step ?_
            refine callg_step rfl (fun h => by cases h) fun _ => ?_
            refine evs_nil ?_
            refine ⟨fun _ => ?_, fun _ => ?_⟩
            · refine evs_step ?_
              refine pk_step hk rfl ((1 + x17) + 1) (ar_add (ar_add rfl rfl (by omega)) rfl (by omega)) rfl rfl (by omega) hb (by omega) fun x18 x18l x18h => ?_
              refine dec_step1 rfl x18 rfl (by omega) fun v19 hv19 => ?_
              refine needs_sh (sh_c [100]) hv19 (by decide) ?_
              refine needs_sh (sh_scat (sh_c [100]) hv19) (sh_c [58]) (by decide) ?_
              refine dec_step1 rfl (1 + x17) (ar_add rfl rfl (by omega)) (by omega) fun v20 hv20 => ?_
              refine needs_sh (sh_scat (sh_scat (sh_c [100]) hv19) (sh_c [58])) hv20 (by decide) ?_
              refine evs_nil ?_
              exact hK _ _ _ (sh_mono (sh_scat (sh_scat (sh_scat (sh_c [100]) hv19) (sh_c [58])) hv20) (by decide)) hb (by omega) (by omega)
            · refine evs_step ?_
              refine pk_step hk rfl ((1 + x17) + 1) (ar_add (ar_add rfl rfl (by omega)) rfl (by omega)) rfl rfl (by omega) hb (by omega) fun x21 x21l x21h => ?_
              refine dec_step1 rfl x21 rfl (by omega) fun v22 hv22 => ?_
              refine needs_sh (sh_c [97]) hv22 (by decide) ?_
              refine needs_sh (sh_scat (sh_c [97]) hv22) (sh_c [58]) (by decide) ?_
              refine dec_step1 rfl (1 + x17) (ar_add rfl rfl (by omega)) (by omega) fun v23 hv23 => ?_
              refine needs_sh (sh_scat (sh_scat (sh_c [97]) hv22) (sh_c [58])) hv23 (by decide) ?_
              refine evs_nil ?_
              exact hK _ _ _ (sh_mono (sh_scat (sh_scat (sh_scat (sh_c [97]) hv22) (sh_c [58])) hv23) (by decide)) hb (by omega) (by omega)
  | true =>
    refine evs_step ?_
    refine pk_step hk rfl 5 rfl rfl rfl (by omega) hb (by omega) fun x1 x1l x1h => ?_
    refine dec_step1 rfl (x1 - 2) (ar_sub rfl rfl (by omega)) (by omega) fun v2 hv2 => ?_
    refine evs_nil ?_
    refine evs_step ?_
    refine pk_step hk rfl 2 rfl rfl rfl (by omega) hb (by omega) fun x3 x3l x3h => ?_
    refine dec_step1 rfl (1 + x3) (ar_add rfl rfl (by omega)) (by omega) fun v4 hv4 => ?_
    refine evs_nil ?_
    refine evs_step ?_
    refine pk_step hk rfl 5 rfl rfl rfl (by omega) hb (by omega) fun x5 x5l x5h => ?_
    refine evs_nil ?_
    refine ⟨fun _ => ?_, fun _ => ?_⟩
    · refine evs_step ?_
      refine needs_sh (sh_c [114]) hv2 (by decide) ?_
      refine needs_sh (sh_scat (sh_c [114]) hv2) (sh_c [58]) (by decide) ?_
      refine needs_sh (sh_scat (sh_scat (sh_c [114]) hv2) (sh_c [58])) hv4 (by decide) ?_
      refine evs_nil ?_
      exact hK _ _ _ (sh_mono (sh_scat (sh_scat (sh_scat (sh_c [114]) hv2) (sh_c [58])) hv4) (by decide)) hb (by omega) (by omega)
    · refine ⟨fun _ => ?_, fun _ => ?_⟩
      · refine ⟨fun _ => ?_, fun _ => ?_⟩
        · refine evs_step ?_
          refine needs_sh (sh_c [119]) hv2 (by decide) ?_
          refine needs_sh (sh_scat (sh_c [119]) hv2) (sh_c [58]) (by decide) ?_
          refine needs_sh (sh_scat (sh_scat (sh_c [119]) hv2) (sh_c [58])) hv4 (by decide) ?_
          refine needs_sh (sh_scat (sh_scat (sh_scat (sh_c [119]) hv2) (sh_c [58])) hv4) (sh_c [58]) (by decide) ?_
          refine pk_step hk rfl 4 rfl rfl rfl (by omega) hb (by omega) fun x6 x6l x6h => ?_
          refine dec_step1 rfl x6 rfl (by omega) fun v7 hv7 => ?_
          refine needs_sh (sh_scat (sh_scat (sh_scat (sh_scat (sh_c [119]) hv2) (sh_c [58])) hv4) (sh_c [58])) hv7 (by decide) ?_
          refine evs_nil ?_
          exact hK _ _ _ (sh_mono (sh_scat (sh_scat (sh_scat (sh_scat (sh_scat (sh_c [119]) hv2) (sh_c [58])) hv4) (sh_c [58])) hv7) (by decide)) hb (by omega) (by omega)
        · refine ⟨fun _ => ?_, fun _ => ?_⟩
          · refine evs_step ?_
            refine needs_sh (sh_c [102]) hv2 (by decide) ?_
            refine needs_sh (sh_scat (sh_c [102]) hv2) (sh_c [58]) (by decide) ?_
            refine needs_sh (sh_scat (sh_scat (sh_c [102]) hv2) (sh_c [58])) hv4 (by decide) ?_
            refine evs_nil ?_
            exact hK _ _ _ (sh_mono (sh_scat (sh_scat (sh_scat (sh_c [102]) hv2) (sh_c [58])) hv4) (by decide)) hb (by omega) (by omega)
          · refine evs_step ?_
            refine pk_step hk rfl 4 rfl rfl rfl (by omega) hb (by omega) fun x8 x8l x8h => ?_
            refine evs_nil ?_
            refine evs_step ?_
            refine callg_step rfl (fun _ => ?_) (fun h => by cases h)
            refine pick_use hk (m := 2) (by omega) (by omega) hb (by omega) (by omega) fun x9 x9l x9h => ?_
            refine evs_nil ?_
            refine ⟨fun _ => ?_, fun _ => ?_⟩
            · refine evs_step ?_
              refine pk_step hk rfl ((1 + x8) + 1) (ar_add (ar_add rfl rfl (by omega)) rfl (by omega)) rfl rfl (by omega) hb (by omega) fun x10 x10l x10h => ?_
              refine dec_step1 rfl x10 rfl (by omega) fun v11 hv11 => ?_
              refine needs_sh (sh_c [100]) hv11 (by decide) ?_
              refine needs_sh (sh_scat (sh_c [100]) hv11) (sh_c [58]) (by decide) ?_
              refine dec_step1 rfl (1 + x8) (ar_add rfl rfl (by omega)) (by omega) fun v12 hv12 => ?_
              refine needs_sh (sh_scat (sh_scat (sh_c [100]) hv11) (sh_c [58])) hv12 (by decide) ?_
              refine evs_nil ?_
              exact hK _ _ _ (sh_mono (sh_scat (sh_scat (sh_scat (sh_c [100]) hv11) (sh_c [58])) hv12) (by decide)) hb (by omega) (by omega)
            · refine evs_step ?_
              refine pk_step hk rfl ((1 + x8) + 1) (ar_add (ar_add rfl rfl (by omega)) rfl (by omega)) rfl rfl (by omega) hb (by omega) fun x13 x13l x13h => ?_
              refine dec_step1 rfl x13 rfl (by omega) fun v14 hv14 => ?_
              refine needs_sh (sh_c [97]) hv14 (by decide) ?_
              refine needs_sh (sh_scat (sh_c [97]) hv14) (sh_c [58]) (by decide) ?_
              refine dec_step1 rfl (1 + x8) (ar_add rfl rfl (by omega)) (by omega) fun v15 hv15 => ?_
              refine needs_sh (sh_scat (sh_scat (sh_c [97]) hv14) (sh_c [58])) hv15 (by decide) ?_
              refine evs_nil ?_
              exact hK _ _ _ (sh_mono (sh_scat (sh_scat (sh_scat (sh_c [97]) hv14) (sh_c [58])) hv15) (by decide)) hb (by omega) (by omega)
      · refine ⟨fun _ => ?_, fun _ => ?_⟩
        · refine evs_step ?_
          refine needs_sh (sh_c [119]) hv2 (by decide) ?_
          refine needs_sh (sh_scat (sh_c [119]) hv2) (sh_c [58]) (by decide) ?_
          refine needs_sh (sh_scat (sh_scat (sh_c [119]) hv2) (sh_c [58])) hv4 (by decide) ?_
          refine needs_sh (sh_scat (sh_scat (sh_scat (sh_c [119]) hv2) (sh_c [58])) hv4) (sh_c [58]) (by decide) ?_
          refine pk_step hk rfl 4 rfl rfl rfl (by omega) hb (by omega) fun x16 x16l x16h => ?_
          refine dec_step1 rfl x16 rfl (by omega) fun v17 hv17 => ?_
          refine needs_sh (sh_scat (sh_scat (sh_scat (sh_scat (sh_c [119]) hv2) (sh_c [58])) hv4) (sh_c [58])) hv17 (by decide) ?_
          refine evs_nil ?_
          exact hK _ _ _ (sh_mono (sh_scat (sh_scat (sh_scat (sh_scat (sh_scat (sh_c [119]) hv2) (sh_c [58])) hv4) (sh_c [58])) hv17) (by decide)) hb (by omega) (by omega)
        · refine ⟨fun _ => ?_, fun _ => ?_⟩
          · refine evs_step ?_
            refine needs_sh (sh_c [102]) hv2 (by decide) ?_
            refine needs_sh (sh_scat (sh_c [102]) hv2) (sh_c [58]) (by decide) ?_
            refine needs_sh (sh_scat (sh_scat (sh_c [102]) hv2) (sh_c [58])) hv4 (by decide) ?_
            refine evs_nil ?_
            exact hK _ _ _ (sh_mono (sh_scat (sh_scat (sh_scat (sh_c [102]) hv2) (sh_c [58])) hv4) (by decide)) hb (by omega) (by omega)
          · refine evs_step ?_
            refine pk_step hk rfl 4 rfl rfl rfl (by omega) hb (by omega) fun x18 x18l x18h => ?_
            refine evs_nil ?_
            refine evs_step ?_
            refine callg_step rfl (fun _ => ?_) (fun h => by cases h)
            refine pick_use hk (m := 2) (by omega) (by omega) hb (by omega) (by omega) fun x19 x19l x19h => ?_
            refine evs_nil ?_
            refine ⟨fun _ => ?_, fun _ => ?_⟩
            · refine evs_step ?_
              refine pk_step hk rfl ((1 + x18) + 1) (ar_add (ar_add rfl rfl (by omega)) rfl (by omega)) rfl rfl (by omega) hb (by omega) fun x20 x20l x20h => ?_
              refine dec_step1 rfl x20 rfl (by omega) fun v21 hv21 => ?_
              refine needs_sh (sh_c [100]) hv21 (by decide) ?_
              refine needs_sh (sh_scat (sh_c [100]) hv21) (sh_c [58]) (by decide) ?_
              refine dec_step1 rfl (1 + x18) (ar_add rfl rfl (by omega)) (by omega) fun v22 hv22 => ?_
              refine needs_sh (sh_scat (sh_scat (sh_c [100]) hv21) (sh_c [58])) hv22 (by decide) ?_
              refine evs_nil ?_
              exact hK _ _ _ (sh_mono (sh_scat (sh_scat (sh_scat (sh_c [100]) hv21) (sh_c [58])) hv22) (by decide)) hb (by omega) (by omega)
            · refine evs_step ?_
              refine pk_step hk rfl ((1 + x18) + 1) (ar_add (ar_add rfl rfl (by omega)) rfl (by omega)) rfl rfl (by omega) hb (by omega) fun x23 x23l x23h => ?_
              refine dec_step1 rfl x23 rfl (by omega) fun v24 hv24 => ?_
              refine needs_sh (sh_c [97]) hv24 (by decide) ?_
              refine needs_sh (sh_scat (sh_c [97]) hv24) (sh_c [58]) (by decide) ?_
              refine dec_step1 rfl (1 + x18) (ar_add rfl rfl (by omega)) (by omega) fun v25 hv25 => ?_
              refine needs_sh (sh_scat (sh_scat (sh_c [97]) hv24) (sh_c [58])) hv25 (by decide) ?_
              refine evs_nil ?_
              exact hK _ _ _ (sh_mono (sh_scat (sh_scat (sh_scat (sh_c [97]) hv24) (sh_c [58])) hv25) (by decide)) hb (by omega) (by omega)
def tr_l92Bench : Tr := (.evs [.call 0 [(.int .i64 4), ξ16, ξ14] none 3] (.lp 0 [ξ0, (.val (.string ⟨#[]⟩)), ξ21, ξ22] [.int .i64, .str, .sl, .int .i64] (.ite (.cmp .lss ξ23 ξ15) (.ite (.cmp .gtr ξ23 ξ0) (.evs [.need [(.cmp .leq (.len ξ24) (.ar .sub .i64 ξ8 (.len (.val (.string ⟨#[32]⟩)))))]] (.evs [.call 1 [ξ20, ξ25, ξ26] none 3, .need [(.cmp .leq (.len (.scat ξ24 (.val (.string ⟨#[32]⟩)))) ξ77)]] (.next 0 [(.ar .add .i64 ξ23 ξ2), (.scat (.scat ξ24 (.val (.string ⟨#[32]⟩))) ξ17), ξ18, ξ27]))) (.evs [.call 1 [ξ20, ξ25, ξ26] none 3, .need [(.cmp .leq (.len ξ24) ξ77)]] (.next 0 [(.ar .add .i64 ξ23 ξ2), (.scat ξ24 ξ17), ξ18, ξ27]))) (.evs [.call 0 [(.int .i64 20), ξ25, ξ26] none 3] (.ite (.cmp .eql ξ17 ξ0) (.evs [.call 2 [ξ18, ξ27, (.val (.string ⟨#[32]⟩)), (.val (.string ⟨#[120]⟩)), (.val (.string ⟨#[114, 48, 58, 48]⟩)), (.val (.string ⟨#[32, 119, 49, 58, 49, 58, 52]⟩)), (.val (.string ⟨#[32, 97, 51, 58, 50]⟩)), (.val (.string ⟨#[32, 102, 48, 49, 58, 49]⟩)), (.val (.string ⟨#[32, 114, 45, 48, 58, 49]⟩)), (.val (.string ⟨#[32, 100, 49, 58, 48]⟩))] none 11, .need [(.cmp .leq (.len ξ24) (.ar .sub .i64 ξ8 (.len ξ42)))]] (.ret [(.scat ξ24 ξ42), ξ40, ξ41])) (.ret [ξ24, ξ18, ξ27]))))))
def Ss_l92Bench (cb : CodeB) : List Spec := [(F_pickC cb).spec, (SP_l92Piece cb), (SP_ofC cb)]
def SP_l92Bench (cb : CodeB) : Spec := drawT cb 100 100 100000
set_option maxHeartbeats 2000000 in
theorem sat_l92Bench (P : Program) (cb : CodeB) (hk : CodeOk cb) (ins : List Value) (K : List Value → Prop) (_ : TypedL [.bool, .sl, .int .i64] ins) (h : SP_l92Bench cb ins K) : sat P (Ss_l92Bench cb) tr_l92Bench ins [] K := by
  obtain ⟨f, b, z, rfl, hb, h0, hz, hK⟩ := h
  refine evs_step (pk_step hk rfl 4 rfl rfl rfl (by omega) hb (by omega) fun nn n0 n1 => evs_nil ?_)
  refine ⟨fun vs => ∃ (j : Nat) (v b' : Value) (z' : Int), (j : Int) ≤ nn ∧ vs = [.int .i64 j, v, b', .int .i64 z'] ∧ Sh (16 * j) v ∧ goodSl cb b' ∧ 0 ≤ z' ∧ z' ≤ z + 1 + 10 * j, fun vs => (nn - toI (vs.getD 0 undef)).toNat, ?_, ?_⟩
  · exact ⟨0, _, b, z + 1, by omega, rfl, sh_c [], hb, by omega, by omega⟩
  · rintro vs _ ⟨j, v, b', z', hj, rfl, hv, hb', z0, z1⟩
    refine ⟨fun h => ?_, fun h => ?_⟩
    · have hlt : (j : Int) < nn := by
        have : decide ((j : Int) < nn) = true := Value.bool.inj h
        simpa using this
      have hw : IntKind.i64.wrap ((j : Int) + 1) = ((j + 1 : Nat) : Int) := by rw [wrap_in (by omega)]; omega
      refine ⟨fun _ => ?_, fun _ => ?_⟩
      · refine evs_step (needs_sh (m := 16 * j) (n := 1) hv (sh_c [32]) (by omega) (evs_nil ?_))
        refine evs_step (call_step rfl ⟨f, b', z', rfl, hb', z0, by omega, fun u b1 q hu hb1 q0 q1 => ?_⟩)
        refine needs_sh (m := 16 * j + 1) (n := 15) (sh_cat hv (sh_c [32])) hu (by omega) (evs_nil ?_)
        refine ⟨⟨j + 1, _, b1, q, by omega, ?_, sh_mono (sh_cat (sh_cat hv (sh_c [32])) hu) (by show 16 * j + 1 + 15 ≤ 16 * (j + 1); omega), hb1, q0, by omega⟩, ?_⟩
        · show [Value.int .i64 (IntKind.i64.wrap ((j : Int) + 1)), _, b1, .int .i64 q] = _
          rw [hw]; rfl
        · show (nn - toI (.int .i64 (IntKind.i64.wrap ((j : Int) + 1)))).toNat < (nn - toI (.int .i64 (j : Int))).toNat
          rw [hw]
          simp only [toI_int]
          omega
      · refine evs_step (call_step rfl ⟨f, b', z', rfl, hb', z0, by omega, fun u b1 q hu hb1 q0 q1 => ?_⟩)
        refine needs_sh (m := 16 * j) (n := 15) hv hu (by omega) (evs_nil ?_)
        refine ⟨⟨j + 1, _, b1, q, by omega, ?_, sh_mono (sh_cat hv hu) (by omega), hb1, q0, by omega⟩, ?_⟩
        · show [Value.int .i64 (IntKind.i64.wrap ((j : Int) + 1)), _, b1, .int .i64 q] = _
          rw [hw]; rfl
        · show (nn - toI (.int .i64 (IntKind.i64.wrap ((j : Int) + 1)))).toNat < (nn - toI (.int .i64 (j : Int))).toNat
          rw [hw]
          simp only [toI_int]
          omega
    · refine evs_step (pk_step hk rfl 20 rfl rfl rfl (by omega) hb' (by omega) fun x x0 x1 => evs_nil ?_)
      have hj3 : j ≤ 3 := by omega
      refine ⟨fun _ => ?_, fun _ => ?_⟩
      · refine evs_step (call_step rfl ⟨b', z' + 1, _, _, _, _, _, _, _, _, rfl, hb', by omega, by omega, fun c hc => ?_, fun u b1 q hu hb1 q0 q1 => ?_⟩)
        · simp only [List.mem_cons, List.not_mem_nil, or_false] at hc
          rcases hc with rfl | rfl | rfl | rfl | rfl | rfl | rfl | rfl
          · exact sh_mono (sh_c [32]) (by decide)
          · exact sh_mono (sh_c [120]) (by decide)
          · exact sh_mono (sh_c [114, 48, 58, 48]) (by decide)
          · exact sh_mono (sh_c [32, 119, 49, 58, 49, 58, 52]) (by decide)
          · exact sh_mono (sh_c [32, 97, 51, 58, 50]) (by decide)
          · exact sh_mono (sh_c [32, 102, 48, 49, 58, 49]) (by decide)
          · exact sh_mono (sh_c [32, 114, 45, 48, 58, 49]) (by decide)
          · exact sh_mono (sh_c [32, 100, 49, 58, 48]) (by decide)
        · refine needs_sh (m := 16 * j) (n := 8) hv hu (by omega) (evs_nil ?_)
          exact hK _ _ _ (sh_mono (sh_cat hv hu) (by omega)) hb1 q0 (by omega)
      · exact hK _ _ _ (sh_mono hv (by omega)) hb' (by omega) (by omega)
def tr_opposite : Tr := (.ret [(.ar .sub .i64 ξ0 ξ20), (.ar .sub .i64 ξ0 ξ16), ξ14])
def Fs_opposite : List Fun1 := []
def F_opposite : Fun1 := ofTree Fs_opposite tr_opposite
def tr_iMatRotator : Tr := (.evs [.call 0 [ξ20, ξ16] none 7] (.ite (.not ξ25) ξ12 (.evs [.call 1 [ξ22, ξ23, ξ24] none 3] (.ret [ξ14, ξ15, ξ21, ξ26, ξ17, ξ18, ξ22, ξ23, ξ24, ξ14, ξ15, ξ21, ξ5]))))
def Fs_iMatRotator : List Fun1 := [G_direction, F_opposite]
def F_iMatRotator : Fun1 := ofTree Fs_iMatRotator tr_iMatRotator
def G_iMatRotator : Fun1 := ⟨fun _ => True, fun ins => rotW (i0 ins 0) (i0 ins 1)⟩
theorem as_iMatRotator (ins : List Value) (ht : TypedL [.int .i64, .int .i64] ins) (_ : G_iMatRotator.pre ins) : F_iMatRotator.pre ins ∧ F_iMatRotator.out ins = G_iMatRotator.out ins := by
  obtain ⟨p, q, rfl, wp, wq⟩ := ints2 ht
  obtain ⟨w1, w2⟩ := dirS_wrap p q
  rw [Int.zero_sub] at w1 w2
  simp only [F_iMatRotator, G_iMatRotator, tr_iMatRotator, Fs_iMatRotator, G_direction, F_opposite, tr_opposite, Fs_opposite, dirV, fr3, arI, ofTree, okT, okE, evalT, evalE, evsIn, ev, callF, preF, hasF, needs, i0, b0, toI_int, toB_bool, List.getD_cons_zero, List.getD_cons_succ, List.cons_append, List.nil_append, List.replicate, if_true, if_false, Bool.false_eq_true, and_true, true_and, implies_true, forall_const, false_implies, cmpI, Bool.not_true, Bool.not_false, Bool.true_and, Bool.false_and, Bool.and_true, Bool.and_false, reduceIte, List.append_nil, reduceCtorEq]
  cases h : dirOk p q
  · simp [h, rotW, rotH, ivs]
  · simp [h, rotW, rotH, ivs, w1, w2]
def tr_iMatAdjoint : Tr := (.evs [.call 0 [ξ20, ξ16, ξ14, ξ1] none 4, .call 0 [ξ23, ξ24, ξ25, ξ41] none 4, .call 0 [ξ15, ξ21, ξ22, ξ63] none 4, .call 0 [ξ26, ξ17, ξ18, ξ48] none 4, .call 1 [ξ27, ξ42, ξ40, ξ44, ξ45, ξ60, ξ58, ξ64, ξ57, ξ55, ξ74, ξ70, ξ73] none 14] ξ84)
def Fs_iMatAdjoint : List Fun1 := [G_mirror, G_gotMat]
def F_iMatAdjoint : Fun1 := ofTree Fs_iMatAdjoint tr_iMatAdjoint
def G_iMatAdjoint : Fun1 := ⟨fun _ => True, adjW⟩
theorem adj_iI (g : Nat → Int) : F_iMatAdjoint.out (ivs g 0 12) = gotV ((((!(mirQ (q3 (ivs g 0 12) 0)).isSome || !(mirQ (q3 (ivs g 0 12) 6)).isSome) || !(mirQ (q3 (ivs g 0 12) 3)).isSome) || !(mirQ (q3 (ivs g 0 12) 9)).isSome)) (fr3 (mirQ (q3 (ivs g 0 12) 0)) ++ (fr3 (mirQ (q3 (ivs g 0 12) 6)) ++ (fr3 (mirQ (q3 (ivs g 0 12) 3)) ++ fr3 (mirQ (q3 (ivs g 0 12) 9))))) 0 12 ++ [.bool (!(((!(mirQ (q3 (ivs g 0 12) 0)).isSome || !(mirQ (q3 (ivs g 0 12) 6)).isSome) || !(mirQ (q3 (ivs g 0 12) 3)).isSome) || !(mirQ (q3 (ivs g 0 12) 9)).isSome))] := by
  kernel_rfl
theorem as_iMatAdjoint (ins : List Value) (ht : TypedL (intTs 12 ++ []) ins) (_ : G_iMatAdjoint.pre ins) : F_iMatAdjoint.pre ins ∧ F_iMatAdjoint.out ins = G_iMatAdjoint.out ins := by
  obtain ⟨g, r, rfl, h1, _⟩ := ints_lit 12 0 ht
  obtain rfl := ints0 h1
  rw [List.append_nil]
  exact ⟨okT_free (by intro F hF ins; simp only [Fs_iMatAdjoint, List.mem_cons, List.not_mem_nil, or_false] at hF; rcases hF with rfl | rfl <;> trivial) _ _ (by kernel_rfl), (adj_iI g).trans (adj_one _ _ _ _)⟩
def tr_iMatPlate : Tr := (.evs [.call 0 [ξ20, ξ16] none 13] (.evs [.call 1 [ξ14, ξ0, (.int .i64 3)] (some (.not (.not ξ41))) 1] (.ite (.ite (.not ξ41) ξ5 (.not ξ44)) ξ12 (.evs [.need [(.cmp .leq ξ0 ξ14), (.cmp .lss ξ14 (.int .i64 4))], .need [(.cmp .leq ξ0 ξ14), (.cmp .lss ξ14 (.int .i64 4))], .call 2 [ξ15, ξ21, ξ22, ξ23, ξ24, ξ25, ξ26, ξ17, ξ18, ξ27, ξ42, ξ40, ξ2, ξ0, ξ2, ξ0, ξ0, ξ2, ξ0, ξ0, ξ2, (.ite (.cmp .eql ξ14 ξ0) ξ2 (.ite (.cmp .eql ξ14 ξ2) ξ0 (.ite (.cmp .eql ξ14 ξ49) (.int .i64 (-1)) ξ0))), (.ite (.cmp .eql ξ14 ξ0) ξ0 (.ite (.cmp .eql ξ14 ξ2) ξ2 (.ite (.cmp .eql ξ14 ξ49) ξ0 (.int .i64 (-1))))), (.ite (.cmp .eql ξ14 ξ0) ξ2 (.ite (.cmp .eql ξ14 ξ2) ξ2 (.ite (.cmp .eql ξ14 ξ49) ξ2 ξ2)))] none 13] (.evs [.call 3 ξ83 none 13] (.evs [.call 2 [ξ45, ξ60, ξ63, ξ58, ξ64, ξ57, ξ48, ξ55, ξ74, ξ70, ξ73, ξ66, ξ92, ξ94, ξ79, ξ91, (.var 34), (.var 35), (.var 36), (.var 37), (.var 38), (.var 39), (.var 40), (.var 41)] none 13] (.ite (.ite (.not ξ95) ξ5 (.not (.var 55))) ξ12 (.ret [(.var 43), (.var 44), (.var 45), (.var 46), (.var 47), ξ85, (.var 49), (.var 50), (.var 51), (.var 52), (.var 53), (.var 54), ξ5]))))))))
def Fs_iMatPlate : List Fun1 := [G_iMatRotator, G_within, G_iMatTimes, G_iMatAdjoint]
def SP_iMatPlate : Spec := fun ins K => ∃ p q k, ins = [.int .i64 p, .int .i64 q, .int .i64 k] ∧ K (plateV p q k)
set_option maxHeartbeats 2000000 in
theorem sat_iMatPlate (P : Program) (ins : List Value) (K : List Value → Prop) (_ : TypedL [.int .i64, .int .i64, .int .i64] ins) (h : SP_iMatPlate ins K) : sat P (specsOf Fs_iMatPlate) tr_iMatPlate ins [] K := by
  obtain ⟨p, q, k, rfl, hK⟩ := h
  unfold plateV at hK
  refine evs_step (call_step rfl ⟨trivial, evs_nil ?_⟩)
  show sat P _ _ ([.int .i64 p, .int .i64 q, .int .i64 k] ++ (ivs (rotH p q) 0 12 ++ [.bool (dirOk p q)])) [] K
  generalize rotH p q = g at *
  cases hd : dirOk p q with
  | false =>
    rw [hd] at hK
    exact evs_step (callg_step rfl (fun h => by cases h) (fun _ => evs_nil (ite_t rfl hK)))
  | true =>
    refine evs_step (callg_step rfl (fun _ => ⟨trivial, evs_nil ?_⟩) (fun h => by cases h))
    show sat P _ _ ([.int .i64 p, .int .i64 q, .int .i64 k] ++ (ivs g 0 12 ++ [.bool true]) ++ [.bool (inRg k 0 3)]) [] K
    rw [hd, Bool.true_and] at hK
    cases hk : inRg k 0 3 with
    | false =>
      rw [hk] at hK
      exact ite_t rfl hK
    | true =>
      rw [hk, Bool.true_and] at hK
      have hk2 : 0 ≤ k ∧ k ≤ 3 := by simpa [inRg] using hk
      have n1 : Value.bool (decide ((0 : Int) ≤ k)) = .bool true := bt hk2.1
      have n2 : Value.bool (decide (k < (4 : Int))) = .bool true := bt (by omega)
      refine ite_f rfl (evs_step (need_step (all_cons n1 (all_cons n2 all_nil)) (need_step (all_cons n1 (all_cons n2 all_nil)) (call_step rfl ⟨trivial, evs_nil ?_⟩))))
      refine evs_step (call_step rfl ⟨trivial, evs_nil ?_⟩)
      refine evs_step (call_step rfl ⟨trivial, evs_nil ?_⟩)
      refine ⟨fun h => ?_, fun h => ?_⟩
      · have h' : (if toB (.bool (!(b0 (plA g k) 12))) = true then Value.bool true else .bool (!(b0 (plM g k) 12))) = .bool true := Eq.trans (by kernel_rfl) h
        have hf : (b0 (plA g k) 12 && b0 (plM g k) 12) = false := by
          generalize b0 (plA g k) 12 = x at h'
          generalize b0 (plM g k) 12 = y at h'
          cases x <;> cases y <;> first | rfl | cases h'
        rw [hf] at hK
        exact hK
      · have h' : (if toB (.bool (!(b0 (plA g k) 12))) = true then Value.bool true else .bool (!(b0 (plM g k) 12))) = .bool false := Eq.trans (by kernel_rfl) h
        have hf : (b0 (plA g k) 12 && b0 (plM g k) 12) = true := by
          generalize b0 (plA g k) 12 = x at h'
          generalize b0 (plM g k) 12 = y at h'
          cases x <;> cases y <;> first | rfl | cases h'
        rw [hf] at hK
        have hK : K ((plM g k).take 12 ++ [.bool true]) := hK
        refine Eq.mp (congrArg K ?_) hK
        kernel_rfl
def tr_iMatFilter : Tr := (.evs [.call 0 [ξ20, ξ16] none 7] (.evs [.call 1 [ξ25, ξ1] none 1] (.evs [.call 2 [ξ14, ξ15, ξ21, ξ14, ξ15, ξ21, ξ26] none 4, .call 2 [ξ14, ξ15, ξ21, ξ22, ξ23, ξ24, ξ42] none 4, .call 2 [ξ14, ξ15, ξ21, ξ22, ξ23, ξ24, ξ45] none 4, .call 2 [ξ22, ξ23, ξ24, ξ22, ξ23, ξ24, ξ64] none 4, .call 3 [ξ17, ξ18, ξ27, ξ40, ξ41, ξ44, ξ60, ξ63, ξ58, ξ57, ξ48, ξ55, ξ74] none 14] (.ret [ξ70, ξ73, ξ66, ξ95, ξ92, ξ94, ξ79, ξ91, (.var 34), (.var 35), (.var 36), (.var 37), (.var 38)]))))
def Fs_iMatFilter : List Fun1 := [G_direction, G_need, G_times, G_gotMat]
def F_iMatFilter : Fun1 := ofTree Fs_iMatFilter tr_iMatFilter
def G_iMatFilter : Fun1 := ⟨fun _ => True, fun ins => filtW (i0 ins 0) (i0 ins 1)⟩
theorem filt_iI (p q : Int) : F_iMatFilter.out [.int .i64 p, .int .i64 q] = filtI (dirOk p q) (timesQ ((dirC p q).getD zq) ((dirC p q).getD zq)) (timesQ ((dirC p q).getD zq) ((dirS p q).getD zq)) (timesQ ((dirS p q).getD zq) ((dirS p q).getD zq)) := by kernel_rfl
theorem as_iMatFilter (ins : List Value) (ht : TypedL [.int .i64, .int .i64] ins) (_ : G_iMatFilter.pre ins) : F_iMatFilter.pre ins ∧ F_iMatFilter.out ins = G_iMatFilter.out ins := by
  obtain ⟨p, q, rfl, wp, wq⟩ := ints2 ht
  exact ⟨okT_free (by intro F hF ins; simp only [Fs_iMatFilter, List.mem_cons, List.not_mem_nil, or_false] at hF; rcases hF with rfl | rfl | rfl | rfl <;> trivial) _ _ (by kernel_rfl), (filt_iI p q).trans (filt_one _ _ _ _)⟩
def tr_share : Tr := (.evs [.need ξ69, .need ξ69, .call 0 [(.sel ξ15 ξ0 1 0), ξ0, (.sel ξ15 ξ2 1 0)] none 4] (.ret [ξ21, ξ22, ξ23]))
def Fs_share : List Fun1 := [G_lowest]
def shareQ (ns : List Int) : Option Q := lowI (ns.getD 0 0) 0 (ns.getD 1 0)
def noMat : List Value := zeros 12 ++ [.bool false]
def scalW (a : Option Q) : List Value := fr3 a ++ ([.int .i64 0, .int .i64 0, .int .i64 1, .int .i64 0, .int .i64 0, .int .i64 1] ++ (fr3 a ++ [.bool true]))
def pieceM (k : UInt8) (ns : List Int) : List Value :=
  if k = 114 then rotW (ns.getD 0 0) (ns.getD 1 0) else if k = 119 then plateV (ns.getD 0 0) (ns.getD 1 0) (ns.getD 2 0)
  else if k = 102 then filtW (ns.getD 0 0) (ns.getD 1 0) else if k = 97 then scalW (shareQ ns) else noMat
theorem ok_two {k : UInt8} {ns : List Int} (hk : k = 114 ∨ k = 102 ∨ k = 97 ∨ k = 100) (h : okPiece k ns = true) : ∃ p q, ns = [p, q] := by
  by_cases h2 : ns.length = 2
  · exact two_list h2
  · rw [ok_len2 hk h2] at h; cases h
theorem ok_three {ns : List Int} (h : okPiece 119 ns = true) : ∃ p q r, ns = [p, q, r] := by
  by_cases h2 : ns.length = 3
  · exact three_list h2
  · rw [ok_len3 h2] at h; cases h
def partOk (n d : Int) : Prop := 0 ≤ n ∧ n ≤ d ∧ 1 ≤ d ∧ d ≤ 100
theorem ok_part {k : UInt8} {n d : Int} (hk : k = 97 ∨ k = 100) (h : okPiece k [n, d] = true) : partOk n d := by
  have h : (inRg d 1 100 && inRg n 0 d) = true := by
    rcases hk with rfl | rfl <;> exact h
  simp only [inRg, Bool.and_eq_true, decide_eq_true_eq] at h
  unfold partOk
  omega
def SP_part : Spec := fun ins K => ∃ k x t n d, ins = [k, x, t, rowI [n, d]] ∧ partOk n d ∧ K (fr3 (shareQ [n, d]))
def SP_partS : Spec := fun ins K => ∃ k x n d, ins = [k, x, rowI [n, d]] ∧ partOk n d ∧ K (fr3 (shareQ [n, d]))
def SP_pm : Spec := fun ins K => ∃ k x t ns, ins = [u8 k, x, t, rowI ns] ∧ okPiece k ns = true ∧ K (pieceM k ns)
def SP_pmS : Spec := fun ins K => ∃ k x ns, ins = [u8 k, x, rowI ns] ∧ okPiece k ns = true ∧ K (pieceM k ns)
theorem inb_two {p q : Int} : ∀ i : Nat, i < 2 → Value.bool (decide (0 ≤ (i : Int) ∧ ((i : Int).toNat + 1) * 1 ≤ (rowI [p, q]).cells.size)) = .bool true := fun i hi => inb_true (c := rowI [p, q]) (i := i) (n := 1) (by rw [rowI_size]; simp only [List.length_cons, List.length_nil]; omega)
theorem inb_three {p q r : Int} : ∀ i : Nat, i < 3 → Value.bool (decide (0 ≤ (i : Int) ∧ ((i : Int).toNat + 1) * 1 ≤ (rowI [p, q, r]).cells.size)) = .bool true := fun i hi => inb_true (c := rowI [p, q, r]) (i := i) (n := 1) (by rw [rowI_size]; simp only [List.length_cons, List.length_nil]; omega)
theorem all2 {p q : Int} {env : List Value} {x y : Ex} (h0 : ev env x = Value.bool (decide (0 ≤ ((0 : Nat) : Int) ∧ (((0 : Nat) : Int).toNat + 1) * 1 ≤ (rowI [p, q]).cells.size))) (h1 : ev env y = Value.bool (decide (0 ≤ ((1 : Nat) : Int) ∧ (((1 : Nat) : Int).toNat + 1) * 1 ≤ (rowI [p, q]).cells.size))) : AllTrue env [x, y] :=
  all_cons (h0.trans (inb_two 0 (by omega))) (all_cons (h1.trans (inb_two 1 (by omega))) all_nil)
theorem all3 {p q r : Int} {env : List Value} {x y z : Ex} (h0 : ev env x = Value.bool (decide (0 ≤ ((0 : Nat) : Int) ∧ (((0 : Nat) : Int).toNat + 1) * 1 ≤ (rowI [p, q, r]).cells.size))) (h1 : ev env y = Value.bool (decide (0 ≤ ((1 : Nat) : Int) ∧ (((1 : Nat) : Int).toNat + 1) * 1 ≤ (rowI [p, q, r]).cells.size))) (h2 : ev env z = Value.bool (decide (0 ≤ ((2 : Nat) : Int) ∧ (((2 : Nat) : Int).toNat + 1) * 1 ≤ (rowI [p, q, r]).cells.size))) : AllTrue env [x, y, z] :=
  all_cons (h0.trans (inb_three 0 (by omega))) (all_cons (h1.trans (inb_three 1 (by omega))) (all_cons (h2.trans (inb_three 2 (by omega))) all_nil))
def SP_share : Spec := SP_part
theorem sat_share (P : Program) (ins : List Value) (K : List Value → Prop) (_ : TypedL [.int .u8, .sl, .str, .row .i64 1] ins) (h : SP_share ins K) : sat P (specsOf Fs_share) tr_share ins [] K := by
  obtain ⟨k, x, t, n, d, rfl, ho, hK⟩ := h
  unfold partOk at ho
  refine evs_step (need_step (all2 (p := n) (q := d) rfl rfl) (need_step (all2 (p := n) (q := d) rfl rfl) (call_step rfl ⟨?_, evs_nil hK⟩)))
  show lowOk n 0 d
  unfold lowOk
  omega
def tr_mat : Tr := (.ite (.cmp .eql ξ20 (.int .u8 114)) (.evs [.need ξ69, .need ξ69, .call 0 [(.sel ξ15 ξ0 1 0), (.sel ξ15 ξ2 1 0)] none 13] ξ75) (.ite (.cmp .eql ξ20 (.int .u8 119)) (.evs [.need [(.inb ξ15 ξ0 1), (.inb ξ15 ξ2 1), (.inb ξ15 ξ49 1)], .need [(.inb ξ15 ξ0 1), (.inb ξ15 ξ2 1), (.inb ξ15 ξ49 1)], .call 1 [(.sel ξ15 ξ0 1 0), (.sel ξ15 ξ2 1 0), (.sel ξ15 ξ49 1 0)] none 13] ξ75) (.ite (.cmp .eql ξ20 (.int .u8 102)) (.evs [.need ξ69, .need ξ69, .call 2 [(.sel ξ15 ξ0 1 0), (.sel ξ15 ξ2 1 0)] none 13] ξ75) (.ite (.cmp .eql ξ20 (.int .u8 97)) (.evs [.call 3 [ξ20, ξ16, ξ14, ξ15] none 3, .call 3 [ξ20, ξ16, ξ14, ξ15] none 3] (.ret [ξ21, ξ22, ξ23, ξ0, ξ0, ξ2, ξ0, ξ0, ξ2, ξ24, ξ25, ξ26, ξ5])) ξ12))))
def Ss_mat : List Spec := [G_iMatRotator.spec, SP_iMatPlate, G_iMatFilter.spec, SP_share]
def SP_mat : Spec := SP_pm
set_option maxHeartbeats 2000000 in
theorem sat_mat (P : Program) (ins : List Value) (K : List Value → Prop) (_ : TypedL [.int .u8, .sl, .str, .row .i64 1] ins) (h : SP_mat ins K) : sat P Ss_mat tr_mat ins [] K := by
  obtain ⟨k, x, t, ns, rfl, ho, hK⟩ := h
  rcases k_cases k with rfl | rfl | rfl | rfl | rfl | ⟨h1, h2, h3, h4, h5⟩
  · obtain ⟨p, q, rfl⟩ := ok_two (.inl rfl) ho
    refine ite_t rfl (evs_step (need_step (all2 (p := p) (q := q) rfl rfl) (need_step (all2 (p := p) (q := q) rfl rfl) (call_step rfl ⟨trivial, evs_nil ?_⟩))))
    have hK : K (rotW p q) := hK
    refine Eq.mp (congrArg K ?_) hK
    kernel_rfl
  · obtain ⟨p, q, rfl⟩ := ok_two (.inr (.inl rfl)) ho
    refine ite_f rfl (ite_f rfl (ite_t rfl (evs_step (need_step (all2 (p := p) (q := q) rfl rfl) (need_step (all2 (p := p) (q := q) rfl rfl) (call_step rfl ⟨trivial, evs_nil ?_⟩))))))
    have hK : K (filtW p q) := hK
    refine Eq.mp (congrArg K ?_) hK
    kernel_rfl
  · obtain ⟨p, q, r, rfl⟩ := ok_three ho
    refine ite_f rfl (ite_t rfl (evs_step (need_step (all3 (p := p) (q := q) (r := r) rfl rfl rfl) (need_step (all3 (p := p) (q := q) (r := r) rfl rfl rfl) (call_step rfl ⟨p, q, r, rfl, evs_nil ?_⟩)))))
    have hK : K (plateV p q r) := hK
    obtain ⟨g, b, e⟩ : ∃ (g : Nat → Int) (b : Bool), plateV p q r = ivs g 0 12 ++ [.bool b] := plate_lit p q r
    rw [e] at hK ⊢
    exact hK
  · obtain ⟨p, q, rfl⟩ := ok_two (.inr (.inr (.inl rfl))) ho
    have hp := ok_part (.inl rfl) ho
    refine ite_f rfl (ite_f rfl (ite_f rfl (ite_t rfl (evs_step (call_step rfl ⟨_, _, _, p, q, rfl, hp, call_step rfl ⟨_, _, _, p, q, rfl, hp, evs_nil ?_⟩⟩)))))
    exact hK
  · refine ite_f rfl (ite_f rfl (ite_f rfl (ite_f rfl ?_)))
    exact hK
  · rw [ok_other h1 h2 h3 h4 h5] at ho; cases ho
def tr_l7Part : Tr := (.evs [.need ξ71, .need ξ71, .call 0 [(.sel ξ14 ξ0 1 0), ξ0, (.sel ξ14 ξ2 1 0)] none 4] (.ret ξ101))
def Fs_l7Part : List Fun1 := [G_sFracMake]
def SP_l7Part : Spec := SP_partS
theorem sat_l7Part (P : Program) (ins : List Value) (K : List Value → Prop) (_ : TypedL [.int .u8, .sl, .row .i64 1] ins) (h : SP_l7Part ins K) : sat P (specsOf Fs_l7Part) tr_l7Part ins [] K := by
  obtain ⟨k, x, n, d, rfl, ho, hK⟩ := h
  unfold partOk at ho
  refine evs_step (need_step (all2 (p := n) (q := d) rfl rfl) (need_step (all2 (p := n) (q := d) rfl rfl) (call_step rfl ⟨trivial, evs_nil ?_⟩)))
  have e : makeI n 0 d = lowI n 0 d := make_small (x := 100) (by omega) (by omega) (by omega) (by omega)
  show K (fr3 (makeI n 0 d))
  rw [e]
  exact hK
def tr_l7Mat : Tr := (.ite (.cmp .eql ξ20 (.int .u8 114)) (.evs [.need ξ71, .need ξ71, .call 0 [(.sel ξ14 ξ0 1 0), (.sel ξ14 ξ2 1 0)] none 13] ξ76) (.ite (.cmp .eql ξ20 (.int .u8 119)) (.evs [.need [(.inb ξ14 ξ0 1), (.inb ξ14 ξ2 1), (.inb ξ14 ξ49 1)], .need [(.inb ξ14 ξ0 1), (.inb ξ14 ξ2 1), (.inb ξ14 ξ49 1)], .call 1 [(.sel ξ14 ξ0 1 0), (.sel ξ14 ξ2 1 0), (.sel ξ14 ξ49 1 0)] none 13] ξ76) (.ite (.cmp .eql ξ20 (.int .u8 102)) (.evs [.need ξ71, .need ξ71, .call 2 [(.sel ξ14 ξ0 1 0), (.sel ξ14 ξ2 1 0)] none 13] ξ76) (.ite (.cmp .eql ξ20 (.int .u8 97)) (.evs [.call 3 ξ9 none 3] (.evs [.call 4 [ξ15, ξ21, ξ22, ξ15, ξ21, ξ22] none 12] (.ret [ξ23, ξ24, ξ25, ξ26, ξ17, ξ18, ξ27, ξ42, ξ40, ξ41, ξ44, ξ45, ξ5]))) ξ12))))
def Ss_l7Mat : List Spec := [G_sMatRotator.spec, SP_sMatPlate, G_sMatFilter.spec, SP_l7Part, F_l5One.spec]
def SP_l7Mat : Spec := SP_pmS
set_option maxHeartbeats 2000000 in
theorem sat_l7Mat (P : Program) (ins : List Value) (K : List Value → Prop) (_ : TypedL [.int .u8, .sl, .row .i64 1] ins) (h : SP_l7Mat ins K) : sat P Ss_l7Mat tr_l7Mat ins [] K := by
  obtain ⟨k, x, ns, rfl, ho, hK⟩ := h
  rcases k_cases k with rfl | rfl | rfl | rfl | rfl | ⟨h1, h2, h3, h4, h5⟩
  · obtain ⟨p, q, rfl⟩ := ok_two (.inl rfl) ho
    refine ite_t rfl (evs_step (need_step (all2 (p := p) (q := q) rfl rfl) (need_step (all2 (p := p) (q := q) rfl rfl) (call_step rfl ⟨trivial, evs_nil ?_⟩))))
    have hK : K (rotW p q) := hK
    refine Eq.mp (congrArg K ?_) hK
    kernel_rfl
  · obtain ⟨p, q, rfl⟩ := ok_two (.inr (.inl rfl)) ho
    refine ite_f rfl (ite_f rfl (ite_t rfl (evs_step (need_step (all2 (p := p) (q := q) rfl rfl) (need_step (all2 (p := p) (q := q) rfl rfl) (call_step rfl ⟨trivial, evs_nil ?_⟩))))))
    have hK : K (filtW p q) := hK
    refine Eq.mp (congrArg K ?_) hK
    kernel_rfl
  · obtain ⟨p, q, r, rfl⟩ := ok_three ho
    refine ite_f rfl (ite_t rfl (evs_step (need_step (all3 (p := p) (q := q) (r := r) rfl rfl rfl) (need_step (all3 (p := p) (q := q) (r := r) rfl rfl rfl) (call_step rfl ⟨p, q, r, rfl, evs_nil ?_⟩)))))
    have hK : K (plateV p q r) := hK
    obtain ⟨g, b, e⟩ : ∃ (g : Nat → Int) (b : Bool), plateV p q r = ivs g 0 12 ++ [.bool b] := plate_lit p q r
    rw [e] at hK ⊢
    exact hK
  · obtain ⟨p, q, rfl⟩ := ok_two (.inr (.inr (.inl rfl))) ho
    have hp := ok_part (.inl rfl) ho
    refine ite_f rfl (ite_f rfl (ite_f rfl (ite_t rfl (evs_step (call_step rfl ⟨_, _, p, q, rfl, hp, evs_nil ?_⟩)))))
    refine evs_step (call_step rfl ⟨trivial, evs_nil ?_⟩)
    exact hK
  · refine ite_f rfl (ite_f rfl (ite_f rfl (ite_f rfl ?_)))
    exact hK
  · rw [ok_other h1 h2 h3 h4 h5] at ho; cases ho
def tr_table : Tr := (.ite (.cmp .eql ξ20 (.int .u8 100)) (.evs [.call 1 [ξ20, ξ16, ξ14, ξ15] none 3, .call 0 [ξ21, ξ22, ξ23] none 49] (.ret [ξ24, ξ25, ξ26, ξ17, ξ18, ξ27, ξ42, ξ40, ξ41, ξ44, ξ45, ξ60, ξ63, ξ58, ξ64, ξ57, ξ48, ξ55, ξ74, ξ70, ξ73, ξ66, ξ95, ξ92, ξ94, ξ79, ξ91, (.var 34), (.var 35), (.var 36), (.var 37), (.var 38), (.var 39), (.var 40), (.var 41), (.var 42), (.var 43), (.var 44), (.var 45), (.var 46), (.var 47), ξ85, (.var 49), (.var 50), (.var 51), (.var 52), (.var 53), (.var 54), (.var 55)])) (.evs [.call 2 [ξ20, ξ16, ξ14, ξ15] none 13] (.ite (.not ξ44) ξ13 (.evs [.call 3 [ξ21, ξ22, ξ23, ξ24, ξ25, ξ26, ξ17, ξ18, ξ27, ξ42, ξ40, ξ41] none 49] (.ret [ξ45, ξ60, ξ63, ξ58, ξ64, ξ57, ξ48, ξ55, ξ74, ξ70, ξ73, ξ66, ξ95, ξ92, ξ94, ξ79, ξ91, (.var 34), (.var 35), (.var 36), (.var 37), (.var 38), (.var 39), (.var 40), (.var 41), (.var 42), (.var 43), (.var 44), (.var 45), (.var 46), (.var 47), ξ85, (.var 49), (.var 50), (.var 51), (.var 52), (.var 53), (.var 54), (.var 55), (.var 56), (.var 57), (.var 58), (.var 59), (.var 60), (.var 61), (.var 62), (.var 63), (.var 64), (.var 65)])))))
def Ss_table : List Spec := [G_iTableFade.spec, SP_share, SP_mat, G_iTableOf.spec]
theorem pieceM_lit (k : UInt8) (ns : List Int) : ∃ (g : Nat → Int) (b : Bool), pieceM k ns = ivs g 0 12 ++ [.bool b] := by
  unfold pieceM
  split
  · exact ⟨_, _, rfl⟩
  · split
    · exact plate_lit _ _ _
    · split
      · exact ⟨_, _, rfl⟩
      · split
        · refine ⟨fun i => if i = 0 then ((shareQ ns).getD zq).1 else if i = 1 then ((shareQ ns).getD zq).2.1 else if i = 2 then ((shareQ ns).getD zq).2.2 else if i = 5 then 1 else if i = 8 then 1 else if i = 9 then ((shareQ ns).getD zq).1 else if i = 10 then ((shareQ ns).getD zq).2.1 else if i = 11 then ((shareQ ns).getD zq).2.2 else 0, true, rfl⟩
        · exact ⟨fun _ => 0, false, rfl⟩
def mulT (h g : Nat → Int) : Bool := nttT 4 (matQ (fun k => q3 (ivs h 0 12 ++ ivs g 0 12) (3 * k)) && matQ (fun k => q3 (ivs h 0 12 ++ ivs g 0 12) (12 + 3 * k))) (mulM (fun k => q3 (ivs h 0 12 ++ ivs g 0 12) (3 * k)) (fun k => q3 (ivs h 0 12 ++ ivs g 0 12) (12 + 3 * k)))
def mulN (h g : Nat → Int) : Nat → Int := nttH 4 (matQ (fun k => q3 (ivs h 0 12 ++ ivs g 0 12) (3 * k)) && matQ (fun k => q3 (ivs h 0 12 ++ ivs g 0 12) (12 + 3 * k))) (mulM (fun k => q3 (ivs h 0 12 ++ ivs g 0 12) (3 * k)) (fun k => q3 (ivs h 0 12 ++ ivs g 0 12) (12 + 3 * k)))
theorem andV_b (a b : Bool) : andV (.bool a) (.bool b) = .bool (a && b) := by cases a <;> rfl
def tofW (ins : List Value) : List Value := nttW 16 (matQ fun k => q3 ins (3 * k)) (toD fun k => q3 ins (3 * k))
def fadeW (a : Q) : List Value := nttW 16 (realQ a) (fdD a)
def pieceT (k : UInt8) (ns : List Int) : List Value :=
  if k = 100 then fadeW ((shareQ ns).getD zq) else if b0 (pieceM k ns) 12 = true then tofW ((pieceM k ns).take 12) else zeros 48 ++ [.bool false]
theorem pieceT_lit (k : UInt8) (ns : List Int) : ∃ (g : Nat → Int) (b : Bool), pieceT k ns = ivs g 0 48 ++ [.bool b] := by
  unfold pieceT
  split
  · exact ⟨_, _, rfl⟩
  · split
    · exact ⟨_, _, rfl⟩
    · exact ⟨fun _ => 0, false, rfl⟩
def SP_pt : Spec := fun ins K => ∃ k x t ns, ins = [u8 k, x, t, rowI ns] ∧ okPiece k ns = true ∧ K (pieceT k ns)
def SP_ptS : Spec := fun ins K => ∃ k x ns, ins = [u8 k, x, rowI ns] ∧ okPiece k ns = true ∧ K (pieceT k ns)
def SP_table : Spec := SP_pt
set_option maxHeartbeats 2000000 in
theorem sat_table (P : Program) (ins : List Value) (K : List Value → Prop) (_ : TypedL [.int .u8, .sl, .str, .row .i64 1] ins) (h : SP_table ins K) : sat P Ss_table tr_table ins [] K := by
  obtain ⟨k, x, t, ns, rfl, ho, hK⟩ := h
  unfold pieceT at hK
  by_cases hk : k = 100
  · subst hk
    obtain ⟨p, q, rfl⟩ := ok_two (.inr (.inr (.inr rfl))) ho
    have hp := ok_part (.inr rfl) ho
    rw [if_pos rfl] at hK
    refine ite_t rfl (evs_step (call_step rfl ⟨_, _, _, p, q, rfl, hp, call_step rfl ⟨trivial, evs_nil ?_⟩⟩))
    refine Eq.mp (congrArg K ?_) hK
    kernel_rfl
  · rw [if_neg hk] at hK
    refine ite_f (beq_f (m := 100) hk) (evs_step (call_step rfl ⟨k, x, t, ns, rfl, ho, ?_⟩))
    obtain ⟨g, b, e⟩ := pieceM_lit k ns
    rw [e] at hK ⊢
    refine evs_nil ?_
    cases b with
    | false => exact ite_t rfl hK
    | true =>
      refine ite_f rfl (evs_step (call_step rfl ⟨trivial, evs_nil ?_⟩))
      have hK : K (tofW (ivs g 0 12)) := hK
      refine Eq.mp (congrArg K ?_) hK
      kernel_rfl
def tr_l7Table : Tr := (.ite (.cmp .eql ξ20 (.int .u8 100)) (.evs [.call 0 ξ9 none 3, .call 1 ξ101 none 49] (.ret [ξ23, ξ24, ξ25, ξ26, ξ17, ξ18, ξ27, ξ42, ξ40, ξ41, ξ44, ξ45, ξ60, ξ63, ξ58, ξ64, ξ57, ξ48, ξ55, ξ74, ξ70, ξ73, ξ66, ξ95, ξ92, ξ94, ξ79, ξ91, (.var 34), (.var 35), (.var 36), (.var 37), (.var 38), (.var 39), (.var 40), (.var 41), (.var 42), (.var 43), (.var 44), (.var 45), (.var 46), (.var 47), ξ85, (.var 49), (.var 50), (.var 51), (.var 52), (.var 53), (.var 54)])) (.evs [.call 2 ξ9 none 13] (.ite (.not ξ41) ξ13 (.evs [.call 3 ξ83 none 49] (.ret [ξ44, ξ45, ξ60, ξ63, ξ58, ξ64, ξ57, ξ48, ξ55, ξ74, ξ70, ξ73, ξ66, ξ95, ξ92, ξ94, ξ79, ξ91, (.var 34), (.var 35), (.var 36), (.var 37), (.var 38), (.var 39), (.var 40), (.var 41), (.var 42), (.var 43), (.var 44), (.var 45), (.var 46), (.var 47), ξ85, (.var 49), (.var 50), (.var 51), (.var 52), (.var 53), (.var 54), (.var 55), (.var 56), (.var 57), (.var 58), (.var 59), (.var 60), (.var 61), (.var 62), (.var 63), (.var 64)])))))
def Ss_l7Table : List Spec := [SP_l7Part, G_sTableFade.spec, SP_l7Mat, G_sTableOf.spec]
def SP_l7Table : Spec := SP_ptS
set_option maxHeartbeats 2000000 in
theorem sat_l7Table (P : Program) (ins : List Value) (K : List Value → Prop) (_ : TypedL [.int .u8, .sl, .row .i64 1] ins) (h : SP_l7Table ins K) : sat P Ss_l7Table tr_l7Table ins [] K := by
  obtain ⟨k, x, ns, rfl, ho, hK⟩ := h
  unfold pieceT at hK
  by_cases hk : k = 100
  · subst hk
    obtain ⟨p, q, rfl⟩ := ok_two (.inr (.inr (.inr rfl))) ho
    have hp := ok_part (.inr rfl) ho
    rw [if_pos rfl] at hK
    refine ite_t rfl (evs_step (call_step rfl ⟨_, _, p, q, rfl, hp, call_step rfl ⟨trivial, evs_nil ?_⟩⟩))
    refine Eq.mp (congrArg K ?_) hK
    kernel_rfl
  · rw [if_neg hk] at hK
    refine ite_f (beq_f (m := 100) hk) (evs_step (call_step rfl ⟨k, x, ns, rfl, ho, ?_⟩))
    obtain ⟨g, b, e⟩ := pieceM_lit k ns
    rw [e] at hK ⊢
    refine evs_nil ?_
    cases b with
    | false => exact ite_t rfl hK
    | true =>
      refine ite_f rfl (evs_step (call_step rfl ⟨trivial, evs_nil ?_⟩))
      have hK : K (tofW (ivs g 0 12)) := hK
      refine Eq.mp (congrArg K ?_) hK
      kernel_rfl
def tr_iBenchRead : Tr := (.evs [.call 0 [ξ20] none 3] (.evs [.call 1 [ξ16, ξ14, ξ15, ξ21, ξ22, ξ23, ξ24, ξ25, ξ26, ξ17, ξ18, ξ27] (some ξ40) 1] (.lp 0 [ξ0, (.ite ξ40 ξ44 ξ1), ξ16, ξ14, ξ15, ξ21, ξ22, ξ23, ξ24, ξ25, ξ26, ξ17, ξ18, ξ27] [.int .i64, .bool, .int .i64, .int .i64, .int .i64, .int .i64, .int .i64, .int .i64, .int .i64, .int .i64, .int .i64, .int .i64, .int .i64, .int .i64] (.ite (.cmp .lss ξ45 (.len ξ42)) (.evs [.need [(.inb ξ41 ξ45 3)]] (.evs [.call 2 [(.sel ξ41 ξ45 3 0), (.hd (.sel ξ41 ξ45 3 1)), (.sel ξ41 ξ45 3 2), (.tl (.sel ξ41 ξ45 3 1))] none 49] (.evs ξ19 (.next 0 [(.ar .add .i64 ξ45 ξ2), (.ite (.ite ξ60 (.var 79) ξ1) (.var 92) ξ1), (.var 80), (.var 81), (.var 82), (.var 83), (.var 84), (.var 85), (.var 86), (.var 87), (.var 88), (.var 89), (.var 90), (.var 91)])))) ξ103))))
def Ss_iBenchRead : List Spec := [SP_readBench, G_iStokesValid.spec, SP_table, G_iTableApply.spec]
def startS (g : Nat → Int) : Option (List Value) := if stQ (fun k => q3 (ivs g 0 12) (3 * k)) = true then some (ivs g 0 12) else none
def appS (ins : List Value) : List Value := nttW 4 (apQ ins) (apD ins)
def asT (h g : Nat → Int) : Bool := nttT 4 (apQ (ivs h 0 48 ++ ivs g 0 12)) (apD (ivs h 0 48 ++ ivs g 0 12))
def asN (h g : Nat → Int) : Nat → Int := nttH 4 (apQ (ivs h 0 48 ++ ivs g 0 12)) (apD (ivs h 0 48 ++ ivs g 0 12))
def stepS (p : Pc) (acc : List Value) : Option (List Value) :=
  if (b0 (pieceT p.k p.ns) 48 && b0 (appS ((pieceT p.k p.ns).take 48 ++ acc)) 12) = true then some ((appS ((pieceT p.k p.ns).take 48 ++ acc)).take 12) else none
theorem stepS_lit {p : Pc} {h g : Nat → Int} {b : Bool} (e : pieceT p.k p.ns = ivs h 0 48 ++ [.bool b]) : stepS p (ivs g 0 12) = if (b && asT h g) = true then some (ivs (asN h g) 0 12) else none := by
  unfold stepS
  rw [e]
  rfl
def benchS (acc : Option (List Value)) : List Pc → Option (List Value)
  | [] => acc
  | p :: r => benchS (acc.bind (stepS p)) r
theorem benchS_snoc (p : Pc) : ∀ (l : List Pc) (acc : Option (List Value)), benchS acc (l ++ [p]) = (benchS acc l).bind (stepS p)
  | [], acc => rfl
  | q :: r, acc => benchS_snoc p r _
theorem benchS_none : ∀ l : List Pc, benchS none l = none
  | [] => rfl
  | _ :: r => benchS_none r
theorem benchS_stop {l : List Pc} {i : Nat} {acc : Option (List Value)} (h : benchS acc (l.take i) = none) : benchS acc l = none := by
  have e : l = l.take i ++ l.drop i := (List.take_append_drop i l).symm
  have key : ∀ (a b : List Pc) (acc : Option (List Value)), benchS acc (a ++ b) = benchS (benchS acc a) b := by
    intro a
    induction a with
    | nil => intro b acc; rfl
    | cons p r ih => intro b acc; exact ih b _
  rw [e, key, h, benchS_none]
def BsAt (st : Option (List Value)) (ps : List Pc) (i : Nat) (ok : Bool) (g : Nat → Int) : Prop := if ok = true then benchS st (ps.take i) = some (ivs g 0 12) else benchS st (ps.take i) = none
theorem bsAt_step {st : Option (List Value)} {ps : List Pc} {i : Nat} {ok b : Bool} {g h : Nat → Int} {p : Pc} (ha : BsAt st ps i ok g) (hp : ps[i]? = some p) (e : pieceT p.k p.ns = ivs h 0 48 ++ [.bool b]) : BsAt st ps (i + 1) (ok && b && asT h g) (asN h g) := by
  unfold BsAt at ha ⊢
  have ht : ps.take (i + 1) = ps.take i ++ [p] := by rw [List.take_add_one, hp]; rfl
  rw [ht, benchS_snoc]
  cases ok with
  | false =>
    have ha : benchS st (ps.take i) = none := ha
    rw [ha]
    rfl
  | true =>
    have ha : benchS st (ps.take i) = some (ivs g 0 12) := ha
    rw [ha]
    show if (b && asT h g) = true then stepS p (ivs g 0 12) = _ else stepS p (ivs g 0 12) = _
    rw [stepS_lit e]
    cases b && asT h g <;> rfl
def benchSV (s : List UInt8) (v : Nat → Int) : List Value := match benchW s with
  | some ps => (match benchS (startS v) ps with
    | some acc => acc ++ [.bool true]
    | none => zeros 12 ++ [.bool false])
  | none => zeros 12 ++ [.bool false]
theorem bsAt_0 (v : Nat → Int) (ps : List Pc) : BsAt (startS v) ps 0 (stQ (fun k => q3 (ivs v 0 12) (3 * k))) v := by
  unfold BsAt
  show if _ then startS v = _ else startS v = _
  unfold startS
  cases stQ (fun k => q3 (ivs v 0 12) (3 * k)) <;> rfl
def SP_iBenchRead : Spec := fun ins K => ∃ s v, ins = bv s :: ivs v 0 12 ∧ s.length ≤ 2097152 ∧ K (benchSV s v)
set_option maxHeartbeats 4000000 in
theorem sat_iBenchRead (P : Program) (ins : List Value) (K : List Value → Prop) (_ : TypedL (.str :: intTs 12) ins) (h : SP_iBenchRead ins K) : sat P Ss_iBenchRead tr_iBenchRead ins [] K := by
  obtain ⟨s, v, rfl, hl, hK⟩ := h
  refine evs_step (call_step rfl ⟨s, rfl, hl, ?_⟩)
  unfold benchSV at hK
  cases hb : benchW s with
  | none =>
    rw [hb] at hK
    refine evs_nil (evs_step (callg_step rfl (fun h => by cases h) (fun _ => evs_nil ?_)))
    refine ⟨fun vs => ∃ g : Nat → Int, vs = [.int .i64 0, .bool false] ++ ivs g 0 12, fun _ => 0, ⟨v, rfl⟩, ?_⟩
    rintro vs _ ⟨g, rfl⟩
    exact ite_f rfl (ite_t rfl hK)
  | some ps =>
    rw [hb] at hK
    dsimp only at hK
    have hok := benchW_ok hb
    intro a len cap l e1 hsl he
    subst he
    refine evs_nil (evs_step (callg_step rfl (fun _ => ⟨trivial, evs_nil ?_⟩) (fun h => by cases h)))
    refine ⟨fun vs => ∃ (i : Nat) (ok : Bool) (g : Nat → Int), vs = [.int .i64 i, .bool ok] ++ ivs g 0 12 ∧ i ≤ ps.length ∧ BsAt (startS v) ps i ok g, fun vs => ps.length - (toI (vs.getD 0 undef)).toNat, ⟨0, stQ (fun k => q3 (ivs v 0 12) (3 * k)), v, rfl, by omega, bsAt_0 v ps⟩, ?_⟩
    have h12 := (benchW_some hb).1
    have hll : l.length = ps.length := by rw [← e1, List.length_map]
    rintro vs _ ⟨i, ok, g, rfl, hi, hat⟩
    refine ⟨fun hc => ?_, fun hc => ?_⟩
    · have hlt : i < ps.length := by
        have hc : Value.bool (decide ((i : Int) < (ps.length : Int))) = .bool true := hc
        have := bt_of hc; omega
      have hlt2 : i < l.length := by omega
      have hx := List.getElem?_eq_getElem hlt2
      generalize l[i] = x at hx
      have hp : ps[i]? = some x.1 := by rw [← e1, List.getElem?_map, hx]; rfl
      obtain ⟨h, b, e⟩ := pieceT_lit x.1.k x.1.ns
      have hw : IntKind.i64.wrap ((i : Int) + 1) = ((i + 1 : Nat) : Int) := by rw [wrap_in (by omega)]; omega
      refine evs_step (need_step (all_cons (inb_true (c := rowB l) (i := i) (n := 3) (by rw [rowB_size]; omega)) all_nil) (evs_nil ?_))
      refine evs_step (call_step rfl ⟨x.1.k, x.2, bv x.1.t, x.1.ns, ?_, hok _ (List.mem_of_getElem? hp), evs_nil ?_⟩)
      · show [(rowB l).cells.getD ((i : Int).toNat * 3 + 0) undef, hdV ((rowB l).cells.getD ((i : Int).toNat * 3 + 1) undef), (rowB l).cells.getD ((i : Int).toNat * 3 + 2) undef, tlV ((rowB l).cells.getD ((i : Int).toNat * 3 + 1) undef)] = _
        rw [Int.toNat_natCast, rowB_get hx (by omega) rfl, rowB_get hx (by omega) rfl, rowB_get hx (by omega) rfl]
        rfl
      rw [e]
      refine evs_step (call_step rfl ⟨trivial, evs_nil ?_⟩)
      refine ⟨⟨i + 1, ok && b && asT h g, asN h g, ?_, by omega, bsAt_step hat hp e⟩, ?_⟩
      · refine Eq.trans (b := [.int .i64 (IntKind.i64.wrap ((i : Int) + 1)), andV (andV (.bool ok) (.bool b)) (.bool (asT h g))] ++ ivs (asN h g) 0 12) (by kernel_rfl) ?_
        rw [hw, andV_b, andV_b]
      · show ps.length - (toI (.int .i64 (IntKind.i64.wrap ((i : Int) + 1)))).toNat < ps.length - (toI (.int .i64 (i : Int))).toNat
        rw [hw]
        simp only [toI_int]
        omega
    · have hge : i = ps.length := by
        have hc : Value.bool (decide ((i : Int) < (ps.length : Int))) = .bool false := hc
        have := bf_of hc; omega
      subst hge
      unfold BsAt at hat
      rw [List.take_length] at hat
      cases ok with
      | false =>
        have hat : benchS (startS v) ps = none := hat
        rw [hat] at hK
        exact ite_t rfl hK
      | true =>
        have hat : benchS (startS v) ps = some (ivs g 0 12) := hat
        rw [hat] at hK
        exact ite_f rfl hK
def tr_sBenchRead : Tr := (.evs [.call 0 [ξ20] none 3] (.evs [.call 1 [ξ16, ξ14, ξ15, ξ21, ξ22, ξ23, ξ24, ξ25, ξ26, ξ17, ξ18, ξ27] (some ξ40) 1] (.lp 0 [ξ0, (.ite ξ40 ξ44 ξ1), ξ16, ξ14, ξ15, ξ21, ξ22, ξ23, ξ24, ξ25, ξ26, ξ17, ξ18, ξ27] [.int .i64, .bool, .int .i64, .int .i64, .int .i64, .int .i64, .int .i64, .int .i64, .int .i64, .int .i64, .int .i64, .int .i64, .int .i64, .int .i64] (.ite (.ite (.cmp .lss ξ45 (.len ξ42)) ξ60 ξ1) (.evs [.need [(.inb ξ41 ξ45 2)], .call 2 [(.sel ξ41 ξ45 2 0), (.hd (.sel ξ41 ξ45 2 1)), (.tl (.sel ξ41 ξ45 2 1))] none 49] (.evs ξ19 (.next 0 [(.ar .add .i64 ξ45 ξ2), (.ite (.var 79) (.var 92) ξ1), (.var 80), (.var 81), (.var 82), (.var 83), (.var 84), (.var 85), (.var 86), (.var 87), (.var 88), (.var 89), (.var 90), (.var 91)]))) ξ103))))
def Ss_sBenchRead : List Spec := [SP_l7Bench, G_sStokesValid.spec, SP_l7Table, G_sTableApply.spec]
def SP_sBenchRead : Spec := fun ins K => ∃ s v, ins = bv s :: ivs v 0 12 ∧ K (benchSV s v)
set_option maxHeartbeats 4000000 in
theorem sat_sBenchRead (P : Program) (ins : List Value) (K : List Value → Prop) (_ : TypedL (.str :: intTs 12) ins) (h : SP_sBenchRead ins K) : sat P Ss_sBenchRead tr_sBenchRead ins [] K := by
  obtain ⟨s, v, rfl, hK⟩ := h
  refine evs_step (call_step rfl ⟨s, rfl, ?_⟩)
  unfold benchSV at hK
  cases hb : benchW s with
  | none =>
    rw [hb] at hK
    intro x c
    refine evs_nil (evs_step (callg_step rfl (fun h => by cases h) (fun _ => evs_nil ?_)))
    refine ⟨fun vs => ∃ g : Nat → Int, vs = [.int .i64 0, .bool false] ++ ivs g 0 12, fun _ => 0, ⟨v, rfl⟩, ?_⟩
    rintro vs _ ⟨g, rfl⟩
    refine ⟨fun hc => ?_, fun _ => ite_t rfl hK⟩
    have hc : (if toB (Value.bool (decide ((0 : Int) < lenV x))) = true then Value.bool false else .bool false) = .bool true := hc
    split at hc <;> cases hc
  | some ps =>
    rw [hb] at hK
    dsimp only at hK
    have hok := benchW_ok hb
    intro a len cap l e1 hsl he
    subst he
    refine evs_nil (evs_step (callg_step rfl (fun _ => ⟨trivial, evs_nil ?_⟩) (fun h => by cases h)))
    refine ⟨fun vs => ∃ (i : Nat) (ok : Bool) (g : Nat → Int), vs = [.int .i64 i, .bool ok] ++ ivs g 0 12 ∧ i ≤ ps.length ∧ BsAt (startS v) ps i ok g, fun vs => ps.length - (toI (vs.getD 0 undef)).toNat, ⟨0, stQ (fun k => q3 (ivs v 0 12) (3 * k)), v, rfl, by omega, bsAt_0 v ps⟩, ?_⟩
    have h12 := (benchW_some hb).1
    have hll : l.length = ps.length := by rw [← e1, List.length_map]
    rintro vs _ ⟨i, ok, g, rfl, hi, hat⟩
    refine ⟨fun hc => ?_, fun hc => ?_⟩
    · have hc : (if toB (Value.bool (decide ((i : Int) < (ps.length : Int)))) = true then Value.bool ok else .bool false) = .bool true := hc
      by_cases hlt : i < ps.length
      · rw [decide_eq_true (by omega)] at hc
        have hc : ok = true := Value.bool.inj hc
        subst hc
        have hlt2 : i < l.length := by omega
        have hx := List.getElem?_eq_getElem hlt2
        generalize l[i] = x at hx
        have hp : ps[i]? = some x.1 := by rw [← e1, List.getElem?_map, hx]; rfl
        obtain ⟨h, b, e⟩ := pieceT_lit x.1.k x.1.ns
        have hw : IntKind.i64.wrap ((i : Int) + 1) = ((i + 1 : Nat) : Int) := by rw [wrap_in (by omega)]; omega
        refine evs_step (need_step (all_cons (inb_true (c := rowL l) (i := i) (n := 2) (by rw [rowL_size]; omega)) all_nil) ?_)
        refine call_step rfl ⟨x.1.k, x.2, x.1.ns, ?_, hok _ (List.mem_of_getElem? hp), evs_nil ?_⟩
        · show [(rowL l).cells.getD ((i : Int).toNat * 2 + 0) undef, hdV ((rowL l).cells.getD ((i : Int).toNat * 2 + 1) undef), tlV ((rowL l).cells.getD ((i : Int).toNat * 2 + 1) undef)] = _
          rw [Int.toNat_natCast, rowL_get hx (by omega) rfl, rowL_get hx (by omega) rfl]
          rfl
        rw [e]
        refine evs_step (call_step rfl ⟨trivial, evs_nil ?_⟩)
        have hst := bsAt_step hat hp e
        rw [Bool.true_and] at hst
        refine ⟨⟨i + 1, b && asT h g, asN h g, ?_, by omega, hst⟩, ?_⟩
        · refine Eq.trans (b := [.int .i64 (IntKind.i64.wrap ((i : Int) + 1)), andV (.bool b) (.bool (asT h g))] ++ ivs (asN h g) 0 12) (by kernel_rfl) ?_
          rw [hw, andV_b]
        · show ps.length - (toI (.int .i64 (IntKind.i64.wrap ((i : Int) + 1)))).toNat < ps.length - (toI (.int .i64 (i : Int))).toNat
          rw [hw]
          simp only [toI_int]
          omega
      · rw [decide_eq_false (by omega)] at hc
        cases hc
    · have hc : (if toB (Value.bool (decide ((i : Int) < (ps.length : Int)))) = true then Value.bool ok else .bool false) = .bool false := hc
      unfold BsAt at hat
      cases ok with
      | false =>
        have hat : benchS (startS v) (ps.take i) = none := hat
        rw [benchS_stop hat] at hK
        exact ite_t rfl hK
      | true =>
        have hge : i = ps.length := by
          by_cases hlt : i < ps.length
          · rw [decide_eq_true (by omega)] at hc
            cases hc
          · omega
        subst hge
        have hat : benchS (startS v) (ps.take ps.length) = some (ivs g 0 12) := hat
        rw [List.take_length] at hat
        rw [hat] at hK
        exact ite_f rfl hK
def tr_DrawBenchRead : Tr := (.evs [.call 0 [ξ20] none 2] (.evs [.call 1 [ξ5, ξ16, ξ14] none 3] (.evs [.call 2 [ξ21, ξ22] none 14] (.ret [ξ15, ξ23, ξ24, ξ25, ξ26, ξ17, ξ18, ξ27, ξ42, ξ40, ξ41, ξ44, ξ45]))))
def Ss_DrawBenchRead (cb : CodeB) : List Spec := [(F_openC cb).spec, (SP_l92Bench cb), (F_l91Stokes cb).spec]
def lenIs (o : Option (List AV)) (n : Nat) : Bool := match o with
  | some O => Nat.beq O.length n
  | none => false
theorem aok_len {cb : CodeB} {F : Fun1} {A : AF} {I : List AV} {n : Nat} {ins : List Value} (h : AOK cb F A) (hc : lenIs (A I) n = true) (hi : AAll cb I ins) {K : List Value → Prop} (hK : ∀ outs : List Value, outs.length = n → K outs) : F.spec ins K := by
  unfold lenIs at hc
  split at hc
  · rename_i O hA
    obtain ⟨h1, h2⟩ := h _ _ hA ins hi
    exact ⟨h1, hK _ (h2.len.trans (Nat.eq_of_beq_eq_true hc))⟩
  · cases hc
theorem law_draw {P : Program} {cb : CodeB} {sp : Spec} {specs : List Spec} {t : Tr} {n : Nat} {ins : List Value} {K : List Value → Prop} (D : List Value → Prop)
    (hsp : ∀ v (K : List Value → Prop), drawPre cb [v] → (∀ outs, D outs → K outs) → sp [v] K)
    (h : ∀ v outs, D outs → sat P (sp :: specs) t (v :: outs) [] K) (hp : (lawF cb).pre ins) (hK : K [.bool true]) :
    sat P (sp :: specs) (.ite (.cmp .gtr (.len (.var 0)) (.int .i64 1048576)) (.ret [.bool true]) (.evs [.call 0 [.var 0] none n] t)) ins [] K := by
  obtain ⟨a, m, cap, rfl, hm, hg⟩ := hp
  refine ⟨fun _ => hK, fun hc => ?_⟩
  have hm2 : m ≤ 1048576 := by
    have hc : Value.bool (decide ((m : Int) > 1048576)) = .bool false := hc
    simp only [Value.bool.injEq, decide_eq_false_iff_not] at hc
    omega
  refine evs_step (call_step rfl (hsp _ _ ⟨_, rfl, hg hm2⟩ fun outs ho => ?_))
  exact evs_nil (h _ outs ho)
def benchDrawN (cb : CodeB) (n : Nat) : Spec := fun ins K => drawPre cb ins ∧ ∀ v (outs : List Value), Sh 200 v → outs.length = n → K (v :: outs)
theorem law_benchN {P : Program} {cb : CodeB} {specs : List Spec} {t : Tr} {n m : Nat} {ins : List Value} {K : List Value → Prop}
    (h : ∀ v a (g : Nat → Int), a.length ≤ 200 → (∀ i, i < n → I64 (g i)) → sat P (tySpec (.str :: intTs n) (benchDrawN cb n) :: specs) t (v :: bv a :: ivs g 0 n) [] K) (hp : (lawF cb).pre ins) (hK : K [.bool true]) :
    sat P (tySpec (.str :: intTs n) (benchDrawN cb n) :: specs) (.ite (.cmp .gtr (.len (.var 0)) (.int .i64 1048576)) (.ret [.bool true]) (.evs [.call 0 [.var 0] none m] t)) ins [] K := by
  refine law_draw (fun outs => ∃ a g, outs = bv a :: ivs g 0 n ∧ a.length ≤ 200 ∧ ∀ i, i < n → I64 (g i)) (fun v K hp hK => ⟨hp, ?_⟩) ?_ hp hK
  · rintro _ outs ⟨a, rfl, ha⟩ hl ht
    obtain ⟨_, r, hr, _, ht2⟩ := TypedL_cons ht
    cases hr
    have ht2 : TypedL (intTs n ++ []) outs := by simpa using ht2
    obtain ⟨g, r2, rfl, h1, h2⟩ := ints_lit n 0 ht2
    obtain rfl := ints0 h1
    rw [List.append_nil] at *
    exact hK _ ⟨a, g, rfl, ha, fun i hi => h2 i (Nat.zero_le _) (by omega)⟩
  · rintro v _ ⟨a, g, rfl, ha, hg⟩
    exact h v a g ha hg
def SP_DrawBenchRead (cb : CodeB) : Spec := benchDrawN cb 12
theorem sat_DrawBenchRead (P : Program) (cb : CodeB) (hk : CodeOk cb) (ins : List Value) (K : List Value → Prop) (_ : TypedL [.sl] ins) (h : SP_DrawBenchRead cb ins K) : sat P (Ss_DrawBenchRead cb) tr_DrawBenchRead ins [] K := by
  obtain ⟨⟨v, rfl, hv⟩, hK⟩ := h
  refine ⟨hv, ?_⟩
  refine ⟨true, openV v, 0, rfl, openV_good hv, by omega, by omega, fun v b' z' h1 hb z0 z1 => ?_⟩
  refine evs_nil (evs_step (call_step rfl ?_))
  show (F_l91Stokes cb).spec [b', .int .i64 z'] _
  have hi : AAll cb [.good, .itv 0 200] [b', .int .i64 z'] := ⟨hb, ⟨z', rfl, z0, by omega⟩, trivial⟩
  refine aok_len (n := 14) (aok_l91Stokes hk) (by kernel_rfl) hi fun outs ho => ?_
  match outs, ho with
  | [a, b, c, d, e, f, g, i, j, k, l, m, n, o], _ => exact evs_nil (hK _ [a, b, c, d, e, f, g, i, j, k, l, m] (sh_mono h1 (by decide)) rfl)
def tr_FnBenchRead : Tr := (.ite (.cmp .gtr ξ68 (.int .i64 1048576)) (.ret [ξ5]) (.evs [.call 0 [ξ20] none 13] (.evs [.call 1 [ξ16, ξ14, ξ15, ξ21, ξ22, ξ23, ξ24, ξ25, ξ26, ξ17, ξ18, ξ27, ξ42] none 13] (.evs [.call 2 [ξ16, ξ14, ξ15, ξ21, ξ22, ξ23, ξ24, ξ25, ξ26, ξ17, ξ18, ξ27, ξ42] none 13] (.ite (.ite (.ite (.not (.eqb ξ70 (.var 39))) ξ5 (.not ξ29)) ξ5 (.not ξ70)) (.ret [(.ite (.eqb ξ70 (.var 39)) ξ29 ξ1)]) (.evs [.call 3 [ξ40, ξ41, ξ44, ξ45, ξ60, ξ63, ξ58, ξ64, ξ57, ξ48, ξ55, ξ74] none 4] (.evs [.call 4 [ξ40, ξ41, ξ44, ξ40, ξ41, ξ44] none 4] (.evs [.call 5 [ξ14, ξ15, ξ21, ξ22, ξ23, ξ24, ξ25, ξ26, ξ17, ξ18, ξ27, ξ42] none 1] (.ite (.ite (.ite (.not ξ85) ξ5 (.not (.var 43))) ξ5 (.not (.var 47))) (.ret [ξ5]) (.evs [.call 6 [ξ40, ξ41, ξ44, ξ14, ξ15, ξ21] none 2] (.evs [.call 5 [ξ40, ξ41, ξ44, ξ45, ξ60, ξ63, ξ58, ξ64, ξ57, ξ48, ξ55, ξ74] none 1] (.ret [(.ite (.ite (.var 51) (.var 50) ξ1) (.cmp .leq (.var 49) ξ0) ξ1)]))))))))))))
def Ss_FnBenchRead (cb : CodeB) : List Spec := [(tySpec [.str, .int .i64, .int .i64, .int .i64, .int .i64, .int .i64, .int .i64, .int .i64, .int .i64, .int .i64, .int .i64, .int .i64, .int .i64] (SP_DrawBenchRead cb)), SP_iBenchRead, SP_sBenchRead, G_iStokesSquares.spec, G_iFracTimes.spec, G_iStokesLight.spec, G_iFracCompare.spec]
theorem sq_val {a : Nat → Q} (h : (sqI a).2 = false) : stQ a = true ∧ realQ (sqI a).1 = true ∧ reR (sqI a).1 = reR (a 1) * reR (a 1) + reR (a 2) * reR (a 2) + reR (a 3) * reR (a 3) := by
  unfold sqI opS at h ⊢
  simp only [Bool.or_eq_false_iff, Bool.not_eq_false', Bool.false_or, Bool.not_eq_eq_eq_not, Bool.not_false] at h
  obtain ⟨⟨⟨⟨⟨h0, h1⟩, h2⟩, h3⟩, h4⟩, h5⟩ := h
  have e1 := some_getD h1
  have e2 := some_getD h2
  have e3 := some_getD h3
  have e4 := some_getD h4
  have e5 := some_getD h5
  obtain ⟨p1, p2⟩ := times_val e1
  obtain ⟨q1, q2⟩ := times_val e2
  obtain ⟨r1, r2⟩ := add_val e3
  obtain ⟨s1, s2⟩ := times_val e4
  obtain ⟨t1, t2⟩ := add_val e5
  have i1 := realQ_im (st_get h0 1 (by omega))
  have i2 := realQ_im (st_get h0 2 (by omega))
  have i3 := realQ_im (st_get h0 3 (by omega))
  refine ⟨h0, realQ_of (add_valid e5) ?_, ?_⟩
  · dsimp only
    rw [t2, r2, p2, q2, s2, i1, i2, i3]; grind
  · dsimp only
    rw [t1, r1, p1, q1, s1, i1, i2, i3]; grind
def startR (g : Nat → Int) : Option (List Value) := if jonesQ (q3 (ivs g 0 6) 0) (q3 (ivs g 0 6) 3) = true then some (ivs g 0 6) else none
def appW (ins : List Value) : List Value := nttW 2 (matQ (fun k => q3 ins (3 * k)) && jonesQ (q3 ins 12) (q3 ins 15)) (applyD (fun k => q3 ins (3 * k)) (q3 ins 12) (q3 ins 15))
def apT (h g : Nat → Int) : Bool := nttT 2 (matQ (fun k => q3 (ivs h 0 12 ++ ivs g 0 6) (3 * k)) && jonesQ (q3 (ivs h 0 12 ++ ivs g 0 6) 12) (q3 (ivs h 0 12 ++ ivs g 0 6) 15)) (applyD (fun k => q3 (ivs h 0 12 ++ ivs g 0 6) (3 * k)) (q3 (ivs h 0 12 ++ ivs g 0 6) 12) (q3 (ivs h 0 12 ++ ivs g 0 6) 15))
def apN (h g : Nat → Int) : Nat → Int := nttH 2 (matQ (fun k => q3 (ivs h 0 12 ++ ivs g 0 6) (3 * k)) && jonesQ (q3 (ivs h 0 12 ++ ivs g 0 6) 12) (q3 (ivs h 0 12 ++ ivs g 0 6) 15)) (applyD (fun k => q3 (ivs h 0 12 ++ ivs g 0 6) (3 * k)) (q3 (ivs h 0 12 ++ ivs g 0 6) 12) (q3 (ivs h 0 12 ++ ivs g 0 6) 15))
def stepR (p : Pc) (acc : List Value) : Option (List Value) :=
  if (b0 (pieceM p.k p.ns) 12 && b0 (appW ((pieceM p.k p.ns).take 12 ++ acc)) 6) = true then some ((appW ((pieceM p.k p.ns).take 12 ++ acc)).take 6) else none
theorem stepR_lit {p : Pc} {h g : Nat → Int} {b : Bool} (e : pieceM p.k p.ns = ivs h 0 12 ++ [.bool b]) : stepR p (ivs g 0 6) = if (b && apT h g) = true then some (ivs (apN h g) 0 6) else none := by
  unfold stepR
  rw [e]
  rfl
def benchR (acc : Option (List Value)) : List Pc → Option (List Value)
  | [] => acc
  | p :: r => benchR (acc.bind (stepR p)) r
theorem benchR_none : ∀ l : List Pc, benchR none l = none
  | [] => rfl
  | _ :: r => benchR_none r
def benchRV (s : List UInt8) (v : Nat → Int) : List Value := match benchW s with
  | some ps => (match benchR (startR v) ps with
    | some acc => acc ++ [.bool true]
    | none => zeros 6 ++ [.bool false])
  | none => zeros 6 ++ [.bool false]
def matL (l : List Value) : RM := ofQ fun k => q3 l (3 * k)
def okL (l : List Value) : Prop := ∀ k, k < 4 → validQ (q3 l (3 * k)) = true
def pm (p : Pc) : RM := matL (pieceM p.k p.ns)
theorem matL_ivs (h : Nat → Int) (b : Bool) : matL (ivs h 0 12 ++ [.bool b]) = matL (ivs h 0 12) := rfl
theorem mul_valL {h g : Nat → Int} (hT : mulT h g = true) : matL (ivs (mulN h g) 0 12) = (matL (ivs h 0 12)).mul (matL (ivs g 0 12)) ∧ okL (ivs (mulN h g) 0 12) := by
  obtain ⟨ok, d⟩ := nttT_ok (show nttT 4 _ _ = true from hT)
  have eA : ∀ k, k < 4 → q3 (ivs h 0 12 ++ ivs g 0 12) (3 * k) = q3 (ivs h 0 12) (3 * k) := get4 rfl rfl rfl rfl
  have eB : ∀ k, k < 4 → q3 (ivs h 0 12 ++ ivs g 0 12) (12 + 3 * k) = q3 (ivs g 0 12) (3 * k) := get4 rfl rfl rfl rfl
  have eC : ∀ k, k < 4 → q3 (ivs (mulN h g) 0 12) (3 * k) = tri (mulN h g) (3 * k) := get4 rfl rfl rfl rfl
  have hv : ∀ k, k < 4 → mulM (fun k => q3 (ivs h 0 12) (3 * k)) (fun k => q3 (ivs g 0 12) (3 * k)) k = some (q3 (ivs (mulN h g) 0 12) (3 * k)) := fun k hk => by
    obtain ⟨v, hv⟩ := d k hk
    rw [eC k hk, show tri (mulN h g) (3 * k) = v from ntt_tri hT hv, ← mulM_congr eA eB hk]
    exact hv
  exact ⟨ofQ_mul hv, fun k hk => (mul_val hv k hk).2.2⟩
def prodP : List Pc → RM
  | [] => RM.one
  | p :: r => (prodP r).mul (pm p)
theorem low_some {a c : Int} (ha : -20000 ≤ a ∧ a ≤ 20000) (hc : 1 ≤ c ∧ c ≤ 20000) : ∃ v, lowI a 0 c = some v := by
  have hd : ∀ x g : Int, (x.tdiv g).natAbs ≤ x.natAbs := fun x g => by rw [Int.natAbs_tdiv]; exact Nat.div_le_self _ _
  unfold lowI
  simp only
  have h1 := hd a (gcd3 a 0 c)
  have h2 := hd 0 (gcd3 a 0 c)
  have h3 := hd c (gcd3 a 0 c)
  rw [if_pos]
  · exact ⟨_, rfl⟩
  · simp only [inR, Bool.and_eq_true, decide_eq_true_eq]
    omega
theorem dir_val {p q : Int} (h : dirOk p q = true) : ∃ C S : Q, dirC p q = some C ∧ dirS p q = some S ∧ validQ C = true ∧ validQ S = true ∧ C.2.1 = 0 ∧ S.2.1 = 0 ∧
    reR C = ((p * p - q * q : Int) : Rat) / ((p * p + q * q : Int) : Rat) ∧ reR S = ((2 * p * q : Int) : Rat) / ((p * p + q * q : Int) : Rat) ∧ reR C * reR C + reR S * reR S = 1 := by
  obtain ⟨l1, l2, _, _, _, _, _, _, f1, f2, f3, f4, f5, f6⟩ := dir_facts h
  obtain ⟨C, hC⟩ := low_some (a := p * p - q * q) (c := p * p + q * q) (by omega) ⟨f1, f2⟩
  obtain ⟨S, hS⟩ := low_some (a := 2 * p * q) (c := p * p + q * q) ⟨f5, f6⟩ ⟨f1, f2⟩
  obtain ⟨c1, c2⟩ := low_val f1 hC
  obtain ⟨s1, s2⟩ := low_val f1 hS
  refine ⟨C, S, by unfold dirC; rw [if_pos h]; exact hC, by unfold dirS; rw [if_pos h]; exact hS, low_valid l1 hC, low_valid l2 hS, low_real hC, low_real hS, c1, s1, ?_⟩
  have hn : ((p * p + q * q : Int) : Rat) ≠ 0 := by
    have : p * p + q * q ≠ 0 := by omega
    exact_mod_cast this
  rw [c1, s1]
  simp only [Rat.intCast_mul, Rat.intCast_sub, Rat.intCast_add] at hn ⊢
  have h2 : ((2 : Int) : Rat) = 2 := rfl
  rw [h2]
  generalize (p : Rat) = x at *
  generalize (q : Rat) = y at *
  grind
def dcR (p q : Int) : Rat := reR ((dirC p q).getD zq)
def dsR (p q : Int) : Rat := reR ((dirS p q).getD zq)
theorem cs_one {p q : Int} (h : dirOk p q = true) : dcR p q * dcR p q + dsR p q * dsR p q = 1 := by
  obtain ⟨C, S, hC, hS, _, _, _, _, _, _, h1⟩ := dir_val h
  unfold dcR dsR
  rw [hC, hS]
  exact h1
theorem neg_valid {S : Q} (h : validQ S = true) : validQ (-S.1, S.2.1, S.2.2) = true := by
  obtain ⟨b1, b2, b3⟩ := valid_bounds h
  simp only [validQ, validI, Bool.and_eq_true, beq_iff_eq] at h ⊢
  refine ⟨?_, h.2.1, h.2.2.1, ?_⟩
  · simp only [inR, Bool.and_eq_true, decide_eq_true_eq]; omega
  · have := h.2.2.2
    unfold gcd3 at this ⊢
    rw [Int.natAbs_neg]
    exact this
theorem rot_val {p q : Int} (h : dirOk p q = true) : matL (ivs (rotH p q) 0 12) = rotM (dcR p q) (dsR p q) ∧ okL (ivs (rotH p q) 0 12) := by
  obtain ⟨C, S, hC, hS, vC, vS, iC, iS, _⟩ := dir_val h
  have e0 : q3 (ivs (rotH p q) 0 12) (3 * 0) = C := by
    show (rotH p q 0, rotH p q 1, rotH p q 2) = _
    unfold rotH
    rw [if_pos h, if_pos h, if_pos h, hC]; rfl
  have e1 : q3 (ivs (rotH p q) 0 12) (3 * 1) = (-S.1, S.2.1, S.2.2) := by
    show (rotH p q 3, rotH p q 4, rotH p q 5) = _
    unfold rotH
    rw [if_pos h, if_pos h, if_pos h, hS, iS]; rfl
  have e2 : q3 (ivs (rotH p q) 0 12) (3 * 2) = S := by
    show (rotH p q 6, rotH p q 7, rotH p q 8) = _
    unfold rotH
    rw [if_pos h, if_pos h, if_pos h, hS]; rfl
  have e3 : q3 (ivs (rotH p q) 0 12) (3 * 3) = C := by
    show (rotH p q 9, rotH p q 10, rotH p q 11) = _
    unfold rotH
    rw [if_pos h, if_pos h, if_pos h, hC]; rfl
  refine ⟨?_, get4 (by rw [e0]; exact vC) (by rw [e1]; exact neg_valid vS) (by rw [e2]; exact vS) (by rw [e3]; exact vC)⟩
  unfold matL ofQ
  simp only
  rw [e0, e1, e2, e3]
  have x1 : dcR p q = reR C := by unfold dcR; rw [hC]; rfl
  have x2 : dsR p q = reR S := by unfold dsR; rw [hS]; rfl
  have x3 : reR (-S.1, S.2.1, S.2.2) = - reR S := by unfold reR; rw [Rat.intCast_neg]; grind
  have x4 : imR (-S.1, S.2.1, S.2.2) = 0 := real_val iS
  rw [x1, x2, x3, x4, real_val iC, real_val iS]
  rfl
def adjN (g : Nat → Int) : Nat → Int := adjG (mirQ (q3 (ivs g 0 12) 0)) (mirQ (q3 (ivs g 0 12) 6)) (mirQ (q3 (ivs g 0 12) 3)) (mirQ (q3 (ivs g 0 12) 9))
theorem adj_val {g : Nat → Int} (hg : okL (ivs g 0 12)) : matL (ivs (adjN g) 0 12) = (matL (ivs g 0 12)).adj ∧ okL (ivs (adjN g) 0 12) := by
  have m : ∀ {v : Q}, validQ v = true → mirQ v = some (v.1, -v.2.1, v.2.2) := fun h => by unfold mirQ; rw [if_pos h]
  have h0 := m (hg 0 (by omega))
  have h1 := m (hg 1 (by omega))
  have h2 := m (hg 2 (by omega))
  have h3 := m (hg 3 (by omega))
  have k0 : mirQ (q3 (ivs g 0 12) 0) = _ := h0
  have k1 : mirQ (q3 (ivs g 0 12) 3) = _ := h1
  have k2 : mirQ (q3 (ivs g 0 12) 6) = _ := h2
  have k3 : mirQ (q3 (ivs g 0 12) 9) = _ := h3
  have e : ∀ i, i < 12 → adjN g i = if i = 0 then g 0 else if i = 1 then -g 1 else if i = 2 then g 2 else if i = 3 then g 6 else if i = 4 then -g 7 else if i = 5 then g 8 else if i = 6 then g 3 else if i = 7 then -g 4 else if i = 8 then g 5 else if i = 9 then g 9 else if i = 10 then -g 10 else g 11 := by
    intro i _
    unfold adjN adjG
    rw [k0, k1, k2, k3]
    rfl
  have e0 : q3 (ivs (adjN g) 0 12) (3 * 0) = (g 0, -g 1, g 2) := by
    show (adjN g 0, adjN g 1, adjN g 2) = _
    rw [e 0 (by omega), e 1 (by omega), e 2 (by omega)]; rfl
  have e1 : q3 (ivs (adjN g) 0 12) (3 * 1) = (g 6, -g 7, g 8) := by
    show (adjN g 3, adjN g 4, adjN g 5) = _
    rw [e 3 (by omega), e 4 (by omega), e 5 (by omega)]; rfl
  have e2 : q3 (ivs (adjN g) 0 12) (3 * 2) = (g 3, -g 4, g 5) := by
    show (adjN g 6, adjN g 7, adjN g 8) = _
    rw [e 6 (by omega), e 7 (by omega), e 8 (by omega)]; rfl
  have e3 : q3 (ivs (adjN g) 0 12) (3 * 3) = (g 9, -g 10, g 11) := by
    show (adjN g 9, adjN g 10, adjN g 11) = _
    rw [e 9 (by omega), e 10 (by omega), e 11 (by omega)]; rfl
  refine ⟨?_, get4 (by rw [e0]; exact mir_valid (hg 0 (by omega))) (by rw [e1]; exact mir_valid (hg 2 (by omega))) (by rw [e2]; exact mir_valid (hg 1 (by omega))) (by rw [e3]; exact mir_valid (hg 3 (by omega)))⟩
  have rr : ∀ a b c : Int, reR (a, -b, c) = reR (a, b, c) := fun a b c => rfl
  have ii : ∀ a b c : Int, imR (a, -b, c) = - imR (a, b, c) := fun a b c => by unfold imR; rw [Rat.intCast_neg]; grind
  unfold matL ofQ
  simp only
  rw [e0, e1, e2, e3, rr, rr, rr, rr, ii, ii, ii, ii]
  rfl
def diagN (k : Int) (i : Nat) : Int := if i = 0 then 1 else if i = 2 then 1 else if i = 5 then 1 else if i = 8 then 1 else if i = 9 then (if k = 0 then 1 else if k = 2 then -1 else 0) else if i = 10 then (if k = 1 then 1 else if k = 3 then -1 else 0) else if i = 11 then 1 else 0
theorem diag_val {k : Int} (h0 : 0 ≤ k) (h3 : k ≤ 3) : diagW k = ivs (diagN k) 0 12 ∧ (matL (ivs (diagN k) 0 12)).U ∧ okL (ivs (diagN k) 0 12) := by
  have r0 : reR (0, 0, 1) = 0 := by decide +kernel
  have r1 : reR (1, 0, 1) = 1 := by decide +kernel
  have rm : reR (-1, 0, 1) = -1 := by decide +kernel
  have s0 : reR (0, 1, 1) = 0 := by decide +kernel
  have s1 : reR (0, -1, 1) = 0 := by decide +kernel
  have i0 : imR (0, 0, 1) = 0 := by decide +kernel
  have i1 : imR (1, 0, 1) = 0 := by decide +kernel
  have im : imR (-1, 0, 1) = 0 := by decide +kernel
  have j0 : imR (0, 1, 1) = 1 := by decide +kernel
  have j1 : imR (0, -1, 1) = -1 := by decide +kernel
  rcases (by omega : k = 0 ∨ k = 1 ∨ k = 2 ∨ k = 3) with rfl | rfl | rfl | rfl
  · refine ⟨rfl, ?_, get4 (by decide) (by decide) (by decide) (by decide)⟩
    have : matL (ivs (diagN 0) 0 12) = diagM 1 0 := by
      show (⟨reR (1, 0, 1), reR (0, 0, 1), reR (0, 0, 1), reR (1, 0, 1), imR (1, 0, 1), imR (0, 0, 1), imR (0, 0, 1), imR (1, 0, 1)⟩ : RM) = _
      rw [r0, r1, i0, i1]; rfl
    rw [this]
    exact diag_U (by grind)
  · refine ⟨rfl, ?_, get4 (by decide) (by decide) (by decide) (by decide)⟩
    have : matL (ivs (diagN 1) 0 12) = diagM 0 1 := by
      show (⟨reR (1, 0, 1), reR (0, 0, 1), reR (0, 0, 1), reR (0, 1, 1), imR (1, 0, 1), imR (0, 0, 1), imR (0, 0, 1), imR (0, 1, 1)⟩ : RM) = _
      rw [r0, r1, i0, i1, s0, j0]; rfl
    rw [this]
    exact diag_U (by grind)
  · refine ⟨rfl, ?_, get4 (by decide) (by decide) (by decide) (by decide)⟩
    have : matL (ivs (diagN 2) 0 12) = diagM (-1) 0 := by
      show (⟨reR (1, 0, 1), reR (0, 0, 1), reR (0, 0, 1), reR (-1, 0, 1), imR (1, 0, 1), imR (0, 0, 1), imR (0, 0, 1), imR (-1, 0, 1)⟩ : RM) = _
      rw [r0, r1, i0, i1, rm, im]; rfl
    rw [this]
    exact diag_U (by grind)
  · refine ⟨rfl, ?_, get4 (by decide) (by decide) (by decide) (by decide)⟩
    have : matL (ivs (diagN 3) 0 12) = diagM 0 (-1) := by
      show (⟨reR (1, 0, 1), reR (0, 0, 1), reR (0, 0, 1), reR (0, -1, 1), imR (1, 0, 1), imR (0, 0, 1), imR (0, 0, 1), imR (0, -1, 1)⟩ : RM) = _
      rw [r0, r1, i0, i1, s1, j1]; rfl
    rw [this]
    exact diag_U (by grind)
theorem plate_val {p q k : Int} (hb : b0 (plateV p q k) 12 = true) : (matL (plateV p q k)).U ∧ okL (plateV p q k) := by
  unfold plateV at hb ⊢
  split at hb
  · rename_i hc
    simp only [Bool.and_eq_true, inRg, decide_eq_true_eq] at hc
    obtain ⟨hd, ⟨k0, k3⟩, hA, hM⟩ := hc
    obtain ⟨d1, d2, d3⟩ := diag_val k0 k3
    obtain ⟨r1, r2⟩ := rot_val hd
    obtain ⟨a1, a2⟩ := adj_val r2
    have eA : plA (rotH p q) k = ivs (mulN (rotH p q) (diagN k)) 0 12 ++ [.bool (mulT (rotH p q) (diagN k))] := by
      unfold plA
      rw [d1]
      rfl
    have eM : plM (rotH p q) k = ivs (mulN (mulN (rotH p q) (diagN k)) (adjN (rotH p q))) 0 12 ++ [.bool (mulT (mulN (rotH p q) (diagN k)) (adjN (rotH p q)))] := by
      unfold plM
      rw [eA]
      rfl
    rw [eA] at hA
    rw [eM] at hM
    have hA : mulT (rotH p q) (diagN k) = true := hA
    have hM : mulT (mulN (rotH p q) (diagN k)) (adjN (rotH p q)) = true := hM
    obtain ⟨v1, _⟩ := mul_valL hA
    obtain ⟨v2, v3⟩ := mul_valL hM
    rw [if_pos (by simp only [Bool.and_eq_true, inRg, decide_eq_true_eq]; exact ⟨hd, ⟨k0, k3⟩, by rw [eA]; exact hA, by rw [eM]; exact hM⟩), eM]
    refine ⟨?_, get4 (v3 0 (by omega)) (v3 1 (by omega)) (v3 2 (by omega)) (v3 3 (by omega))⟩
    show (matL (ivs (mulN (mulN (rotH p q) (diagN k)) (adjN (rotH p q))) 0 12)).U
    rw [v2, v1, a1, r1]
    have hr := rot_U (cs_one hd)
    exact RM.U_mul (RM.U_mul hr d2) (RM.U_adj hr)
  · cases hb
theorem filt_val {p q : Int} (hb : b0 (filtW p q) 12 = true) : dirOk p q = true ∧ matL (filtW p q) = filM (dcR p q) (dsR p q) ∧ okL (filtW p q) := by
  have hc : (dirOk p q && ((timesQ ((dirC p q).getD zq) ((dirC p q).getD zq)).isSome && ((timesQ ((dirC p q).getD zq) ((dirS p q).getD zq)).isSome && (timesQ ((dirS p q).getD zq) ((dirS p q).getD zq)).isSome))) = true := hb
  have hc' := hc
  simp only [Bool.and_eq_true] at hc
  obtain ⟨hd, h1, h2, h3⟩ := hc
  obtain ⟨C, S, hC, hS, vC, vS, iC, iS, _⟩ := dir_val hd
  obtain ⟨a, ha⟩ := Option.isSome_iff_exists.1 h1
  obtain ⟨b, hb⟩ := Option.isSome_iff_exists.1 h2
  obtain ⟨d, hd'⟩ := Option.isSome_iff_exists.1 h3
  have e : ∀ i, i < 12 → filtG (dirOk p q) (timesQ ((dirC p q).getD zq) ((dirC p q).getD zq)) (timesQ ((dirC p q).getD zq) ((dirS p q).getD zq)) (timesQ ((dirS p q).getD zq) ((dirS p q).getD zq)) i =
      if i = 0 then a.1 else if i = 1 then a.2.1 else if i = 2 then a.2.2 else if i = 3 then b.1 else if i = 4 then b.2.1 else if i = 5 then b.2.2 else if i = 6 then b.1 else if i = 7 then b.2.1 else if i = 8 then b.2.2 else if i = 9 then d.1 else if i = 10 then d.2.1 else d.2.2 := by
    intro i _
    unfold filtG
    rw [if_pos hc', ha, hb, hd']
    rfl
  have e0 : q3 (filtW p q) (3 * 0) = a := by
    show (filtG _ _ _ _ 0, filtG _ _ _ _ 1, filtG _ _ _ _ 2) = _
    rw [e 0 (by omega), e 1 (by omega), e 2 (by omega)]; rfl
  have e1 : q3 (filtW p q) (3 * 1) = b := by
    show (filtG _ _ _ _ 3, filtG _ _ _ _ 4, filtG _ _ _ _ 5) = _
    rw [e 3 (by omega), e 4 (by omega), e 5 (by omega)]; rfl
  have e2 : q3 (filtW p q) (3 * 2) = b := by
    show (filtG _ _ _ _ 6, filtG _ _ _ _ 7, filtG _ _ _ _ 8) = _
    rw [e 6 (by omega), e 7 (by omega), e 8 (by omega)]; rfl
  have e3 : q3 (filtW p q) (3 * 3) = d := by
    show (filtG _ _ _ _ 9, filtG _ _ _ _ 10, filtG _ _ _ _ 11) = _
    rw [e 9 (by omega), e 10 (by omega), e 11 (by omega)]; rfl
  have x1 : dcR p q = reR C := by unfold dcR; rw [hC]; rfl
  have x2 : dsR p q = reR S := by unfold dsR; rw [hS]; rfl
  rw [hC] at ha hb
  rw [hS] at hb hd'
  have ha : timesQ C C = some a := ha
  have hb : timesQ C S = some b := hb
  have hd' : timesQ S S = some d := hd'
  obtain ⟨a1, a2⟩ := times_val ha
  obtain ⟨b1, b2⟩ := times_val hb
  obtain ⟨d1, d2⟩ := times_val hd'
  have zC := real_val iC
  have zS := real_val iS
  refine ⟨hd, ?_, get4 (by rw [e0]; exact times_valid ha) (by rw [e1]; exact times_valid hb) (by rw [e2]; exact times_valid hb) (by rw [e3]; exact times_valid hd')⟩
  unfold matL ofQ
  simp only
  rw [e0, e1, e2, e3, x1, x2]
  apply RM.eq <;> simp only [filM, a1, a2, b1, b2, d1, d2, zC, zS] <;> grind
theorem share_val {n d : Int} (h : partOk n d) : ∃ v, shareQ [n, d] = some v ∧ validQ v = true ∧ v.2.1 = 0 ∧ 0 ≤ reR v ∧ reR v ≤ 1 := by
  obtain ⟨h0, h1, h2, h3⟩ := h
  obtain ⟨v, hv⟩ := low_some (a := n) (c := d) (by omega) (by omega)
  obtain ⟨v1, v2⟩ := low_val h2 hv
  have hp : (0 : Rat) < (d : Rat) := by
    have : (0 : Int) < d := by omega
    exact_mod_cast this
  refine ⟨v, hv, low_valid (by unfold lowOk; omega) hv, low_real hv, ?_, ?_⟩
  · have : ¬ reR v < 0 := fun hh => by
      rw [v1, Rat.div_lt_iff hp, Rat.zero_mul] at hh
      have : n < 0 := by exact_mod_cast hh
      omega
    grind
  · have : ¬ 1 < reR v := fun hh => by
      rw [v1, Rat.lt_div_iff hp, Rat.one_mul, Rat.intCast_lt_intCast] at hh
      omega
    grind
theorem scal_val {n d : Int} (h : partOk n d) : ∃ a, 0 ≤ a ∧ a ≤ 1 ∧ matL (scalW (shareQ [n, d])) = scaM a ∧ okL (scalW (shareQ [n, d])) := by
  obtain ⟨v, e, hv, hi, h0, h1⟩ := share_val h
  refine ⟨reR v, h0, h1, ?_, ?_⟩
  · rw [e]
    show (⟨reR v, reR (0, 0, 1), reR (0, 0, 1), reR v, imR v, imR (0, 0, 1), imR (0, 0, 1), imR v⟩ : RM) = _
    rw [show reR (0, 0, 1) = 0 by decide +kernel, show imR (0, 0, 1) = 0 by decide +kernel, real_val hi]
    rfl
  · rw [e]
    exact get4 hv (show validQ (0, 0, 1) = true by decide) (show validQ (0, 0, 1) = true by decide) hv
theorem piece_kinds {k : UInt8} {ns : List Int} (ho : okPiece k ns = true) (hb : b0 (pieceM k ns) 12 = true) :
    okL (pieceM k ns) ∧ k ≠ 100 ∧ (((matL (pieceM k ns)).U) ∨ (k = 102 ∧ ∃ c s, c * c + s * s = 1 ∧ matL (pieceM k ns) = filM c s) ∨ (k = 97 ∧ ∃ a, 0 ≤ a ∧ a ≤ 1 ∧ matL (pieceM k ns) = scaM a)) := by
  rcases k_cases k with rfl | rfl | rfl | rfl | rfl | ⟨h1, h2, h3, h4, h5⟩
  · obtain ⟨p, q, rfl⟩ := ok_two (.inl rfl) ho
    have hb : dirOk p q = true := hb
    obtain ⟨r1, r2⟩ := rot_val hb
    refine ⟨get4 (r2 0 (by omega)) (r2 1 (by omega)) (r2 2 (by omega)) (r2 3 (by omega)), by decide, .inl ?_⟩
    show (matL (ivs (rotH p q) 0 12)).U
    rw [r1]
    exact rot_U (cs_one hb)
  · obtain ⟨p, q, rfl⟩ := ok_two (.inr (.inl rfl)) ho
    have hb : b0 (filtW p q) 12 = true := hb
    obtain ⟨hd, f1, f2⟩ := filt_val hb
    exact ⟨f2, by decide, .inr (.inl ⟨rfl, _, _, cs_one hd, f1⟩)⟩
  · obtain ⟨p, q, r, rfl⟩ := ok_three ho
    have hb : b0 (plateV p q r) 12 = true := hb
    obtain ⟨p1, p2⟩ := plate_val hb
    exact ⟨p2, by decide, .inl p1⟩
  · obtain ⟨p, q, rfl⟩ := ok_two (.inr (.inr (.inl rfl))) ho
    obtain ⟨a, a0, a1, a2, a3⟩ := scal_val (ok_part (.inl rfl) ho)
    exact ⟨a3, by decide, .inr (.inr ⟨rfl, a, a0, a1, a2⟩)⟩
  · cases hb
  · rw [ok_other h1 h2 h3 h4 h5] at ho; cases ho
theorem piece_good {k : UInt8} {ns : List Int} (ho : okPiece k ns = true) (hb : b0 (pieceM k ns) 12 = true) : Good (matL (pieceM k ns)).tf := by
  obtain ⟨_, _, h | ⟨_, c, s, h1, h⟩ | ⟨_, a, h0, h1, h⟩⟩ := piece_kinds ho hb
  · exact good_U h
  · rw [h]; exact good_fil h1
  · rw [h]; exact good_sca h0 h1
def vecN (g : Nat → Int) : RV := ofV (q3 (ivs g 0 6) 0) (q3 (ivs g 0 6) 3)
def okV (g : Nat → Int) : Prop := jonesQ (q3 (ivs g 0 6) 0) (q3 (ivs g 0 6) 3) = true
theorem ap_num {h g : Nat → Int} (hT : apT h g = true) : okV g ∧ ∃ v w, q3 (ivs (apN h g) 0 6) 0 = v ∧ q3 (ivs (apN h g) 0 6) 3 = w ∧
    mixQ (q3 (ivs h 0 12 ++ ivs g 0 6) (3 * 0)) (q3 (ivs h 0 12 ++ ivs g 0 6) 12) (q3 (ivs h 0 12 ++ ivs g 0 6) (3 * 1)) (q3 (ivs h 0 12 ++ ivs g 0 6) 15) = some v ∧
    mixQ (q3 (ivs h 0 12 ++ ivs g 0 6) (3 * 2)) (q3 (ivs h 0 12 ++ ivs g 0 6) 12) (q3 (ivs h 0 12 ++ ivs g 0 6) (3 * 3)) (q3 (ivs h 0 12 ++ ivs g 0 6) 15) = some w := by
  unfold apT at hT
  obtain ⟨ok, d⟩ := nttT_ok hT
  rw [Bool.and_eq_true] at ok
  obtain ⟨v, hv⟩ := d 0 (by omega)
  obtain ⟨w, hw⟩ := d 1 (by omega)
  refine ⟨ok.2, v, w, ?_, ?_, hv, hw⟩
  · have := ntt_tri hT hv
    exact this
  · have := ntt_tri hT hw
    exact this
theorem ap_val {h g : Nat → Int} (hT : apT h g = true) : vecN (apN h g) = (matL (ivs h 0 12)).app (vecN g) ∧ okV (apN h g) ∧ okV g := by
  obtain ⟨hg, v, w, e0, e1, hv, hw⟩ := ap_num hT
  have eA : ∀ k, k < 4 → q3 (ivs h 0 12 ++ ivs g 0 6) (3 * k) = q3 (ivs h 0 12) (3 * k) := get4 rfl rfl rfl rfl
  have e12 : q3 (ivs h 0 12 ++ ivs g 0 6) 12 = q3 (ivs g 0 6) 0 := rfl
  have e15 : q3 (ivs h 0 12 ++ ivs g 0 6) 15 = q3 (ivs g 0 6) 3 := rfl
  rw [e12, e15] at hv hw
  rw [eA 0 (by omega), eA 1 (by omega)] at hv
  rw [eA 2 (by omega), eA 3 (by omega)] at hw
  obtain ⟨a1, a2, a3⟩ := mix_val hv
  obtain ⟨b1, b2, b3⟩ := mix_val hw
  refine ⟨?_, ?_, hg⟩
  · unfold vecN
    rw [e0, e1]
    exact RV.eq a1 a2 b1 b2
  · unfold okV jonesQ
    rw [e0, e1, a3, b3]
    rfl
theorem stepR_val {p : Pc} {g : Nat → Int} {o : List Value} (h : stepR p (ivs g 0 6) = some o) : ∃ g', o = ivs g' 0 6 ∧ b0 (pieceM p.k p.ns) 12 = true ∧ vecN g' = (pm p).app (vecN g) ∧ okV g' := by
  obtain ⟨f, b, e⟩ := pieceM_lit p.k p.ns
  rw [stepR_lit e] at h
  split at h
  · rename_i hc
    rw [Bool.and_eq_true] at hc
    obtain ⟨rfl, hT⟩ := hc
    obtain ⟨v1, v2, _⟩ := ap_val hT
    refine ⟨_, (Option.some.inj h).symm, by rw [e]; rfl, ?_, v2⟩
    rw [v1]
    unfold pm
    rw [e]
    rfl
  · cases h
theorem benchR_val : ∀ {l : List Pc} {g : Nat → Int} {o : List Value}, okV g → benchR (some (ivs g 0 6)) l = some o →
    ∃ g', o = ivs g' 0 6 ∧ vecN g' = (prodP l).app (vecN g) ∧ okV g' ∧ ∀ p ∈ l, b0 (pieceM p.k p.ns) 12 = true
  | [], g, o, hg, h => ⟨g, (Option.some.inj h).symm, (RM.app_one _).symm, hg, fun p hp => by cases hp⟩
  | p :: r, g, o, hg, h => by
    have h : benchR (stepR p (ivs g 0 6)) r = some o := h
    cases hs : stepR p (ivs g 0 6) with
    | none => rw [hs, benchR_none] at h; cases h
    | some a =>
      rw [hs] at h
      obtain ⟨g1, rfl, b1, m1, k1⟩ := stepR_val hs
      obtain ⟨g2, rfl, m2, k2, b2⟩ := benchR_val k1 h
      refine ⟨g2, rfl, ?_, k2, fun q hq => ?_⟩
      · rw [m2, m1, prodP, RM.app_mul]
      · rcases List.mem_cons.1 hq with rfl | hq
        · exact b1
        · exact b2 q hq
theorem startR_some {g : Nat → Int} {o : List Value} (h : startR g = some o) : okV g ∧ o = ivs g 0 6 := by
  unfold startR at h
  split at h
  · rename_i hc
    exact ⟨hc, (Option.some.inj h).symm⟩
  · cases h
theorem runV_true {s : List UInt8} {v : Nat → Int} (h : b0 (benchRV s v) 6 = true) : ∃ ps g, benchW s = some ps ∧ okV v ∧ benchR (startR v) ps = some (ivs g 0 6) ∧ benchRV s v = ivs g 0 6 ++ [.bool true] ∧ vecN g = (prodP ps).app (vecN v) ∧ okV g ∧ ∀ p ∈ ps, b0 (pieceM p.k p.ns) 12 = true := by
  unfold benchRV at h ⊢
  cases hb : benchW s with
  | none => rw [hb] at h; cases h
  | some ps =>
    rw [hb] at h
    dsimp only at h ⊢
    cases hs : startR v with
    | none => rw [hs, benchR_none] at h; cases h
    | some a =>
      obtain ⟨hv, rfl⟩ := startR_some hs
      cases hr : benchR (some (ivs v 0 6)) ps with
      | none => rw [hs, hr] at h; cases h
      | some o =>
        obtain ⟨g, rfl, m, k, b⟩ := benchR_val hv hr
        exact ⟨ps, g, rfl, hv, by rw [hr], rfl, m, k, b⟩
def tabL (l : List Value) : Nat → Rat := fun k => reR (q3 l (3 * k))
def rlL (l : List Value) (n : Nat) : Prop := ∀ k, k < n → realQ (q3 l (3 * k)) = true
theorem cell12 (g : Nat → Int) : ∀ k, k < 4 → q3 (ivs g 0 12) (3 * k) = tri g (3 * k) := get4 rfl rfl rfl rfl
theorem cell48b (g : Nat → Int) (b : Bool) : ∀ k, k < 16 → q3 (ivs g 0 48 ++ [.bool b]) (3 * k) = q3 (ivs g 0 48) (3 * k) := get16 rfl rfl rfl rfl rfl rfl rfl rfl rfl rfl rfl rfl rfl rfl rfl rfl
theorem as_val {h g : Nat → Int} (hT : asT h g = true) : (∀ k, k < 4 → tabL (ivs (asN h g) 0 12) k = ta (tabL (ivs h 0 48)) (tabL (ivs g 0 12)) k) ∧ rlL (ivs (asN h g) 0 12) 4 := by
  obtain ⟨ok, d⟩ := nttT_ok (show nttT 4 _ _ = true from hT)
  unfold apQ at ok
  rw [Bool.and_eq_true] at ok
  have eA : ∀ k, k < 16 → q3 (ivs h 0 48 ++ ivs g 0 12) (3 * k) = q3 (ivs h 0 48) (3 * k) := get16 rfl rfl rfl rfl rfl rfl rfl rfl rfl rfl rfl rfl rfl rfl rfl rfl
  have eB : ∀ k, k < 4 → q3 (ivs h 0 48 ++ ivs g 0 12) (48 + 3 * k) = q3 (ivs g 0 12) (3 * k) := get4 rfl rfl rfl rfl
  have ra : ∀ k, k < 16 → imR (q3 (ivs h 0 48) (3 * k)) = 0 := fun k hk => by rw [← eA k hk]; exact realQ_im (tab_get ok.1 k hk)
  have rb : ∀ k, k < 4 → imR (q3 (ivs g 0 12) (3 * k)) = 0 := fun k hk => by rw [← eB k hk]; exact realQ_im (st_get ok.2 k hk)
  have key : ∀ k, k < 4 → tabL (ivs (asN h g) 0 12) k = ta (tabL (ivs h 0 48)) (tabL (ivs g 0 12)) k ∧ realQ (q3 (ivs (asN h g) 0 12) (3 * k)) = true := fun k hk => by
    obtain ⟨v, hv⟩ := d k hk
    have ev : q3 (ivs (asN h g) 0 12) (3 * k) = v := by
      rw [cell12 _ k hk]
      exact ntt_tri (show nttT 4 _ _ = true from hT) hv
    have hv : dotQ (rowF (fun k => q3 (ivs h 0 48 ++ ivs g 0 12) (3 * k)) k) (fun k => q3 (ivs h 0 48 ++ ivs g 0 12) (48 + 3 * k)) = some v := hv
    rw [dot_congr (row_congr eA hk) eB] at hv
    obtain ⟨v1, v2, v3⟩ := dot_val hv (row_im ra hk) rb
    unfold tabL
    rw [ev]
    exact ⟨v1, realQ_of v3 v2⟩
  exact ⟨fun k hk => (key k hk).1, fun k hk => (key k hk).2⟩
theorem pieceT_val {k : UInt8} {ns : List Int} (ho : okPiece k ns = true) (hb : b0 (pieceT k ns) 48 = true) :
    Good (tabL (pieceT k ns)) ∧ (b0 (pieceM k ns) 12 = true → ∀ i, i < 16 → tabL (pieceT k ns) i = (matL (pieceM k ns)).tf i) := by
  by_cases hk : k = 100
  · subst hk
    obtain ⟨n, d, rfl⟩ := ok_two (.inr (.inr (.inr rfl))) ho
    obtain ⟨v, ev, hv, hi, h0, h1⟩ := share_val (ok_part (.inr rfl) ho)
    have hT : nttT 16 (realQ ((shareQ [n, d]).getD zq)) (fdD ((shareQ [n, d]).getD zq)) = true := hb
    refine ⟨good_congr ?_ (good_fade h0 h1), fun h => by cases h⟩
    intro k hk
    have e : q3 (pieceT 100 [n, d]) (3 * k) = dgF v k := by
      have : ∀ k, k < 16 → q3 (pieceT 100 [n, d]) (3 * k) = tri (nttH 16 (realQ ((shareQ [n, d]).getD zq)) (fdD ((shareQ [n, d]).getD zq))) (3 * k) := get16 rfl rfl rfl rfl rfl rfl rfl rfl rfl rfl rfl rfl rfl rfl rfl rfl
      rw [this k hk, ntt_tri hT (v := dgF v k)]
      rw [ev]; rfl
    unfold tabL
    rw [e]
    unfold dgF fadeT
    split
    · exact oneQ_re.symm
    · split
      · rfl
      · exact nilQ_re.symm
  · have e0 : pieceT k ns = if b0 (pieceM k ns) 12 = true then tofW ((pieceM k ns).take 12) else zeros 48 ++ [.bool false] := by
      unfold pieceT
      rw [if_neg hk]
    rw [e0] at hb
    split at hb
    · rename_i hm
      rw [e0, if_pos hm]
      have key : ∀ i, i < 16 → tabL (tofW ((pieceM k ns).take 12)) i = (matL (pieceM k ns)).tf i := by
        obtain ⟨g, b, e⟩ := pieceM_lit k ns
        rw [e] at hb ⊢
        have hT : nttT 16 (matQ fun k => q3 (ivs g 0 12) (3 * k)) (toD fun k => q3 (ivs g 0 12) (3 * k)) = true := hb
        obtain ⟨_, d⟩ := nttT_ok hT
        intro i hi
        obtain ⟨v, hv⟩ := d i hi
        have : ∀ i, i < 16 → q3 (tofW ((ivs g 0 12 ++ [Value.bool b]).take 12)) (3 * i) = tri (nttH 16 (matQ fun k => q3 (ivs g 0 12) (3 * k)) (toD fun k => q3 (ivs g 0 12) (3 * k))) (3 * i) := get16 rfl rfl rfl rfl rfl rfl rfl rfl rfl rfl rfl rfl rfl rfl rfl rfl
        unfold tabL
        rw [this i hi, ntt_tri hT hv, (toD_val i hi hv).1, matL_ivs]
        exact tf_congr (get4 rfl rfl rfl rfl) (get4 rfl rfl rfl rfl) i hi
      exact ⟨good_congr (fun i hi => (key i hi).symm) (piece_good ho hm), fun _ => key⟩
    · cases hb
theorem stepS_val {p : Pc} {g : Nat → Int} {o : List Value} (h : stepS p (ivs g 0 12) = some o) : ∃ g', o = ivs g' 0 12 ∧ b0 (pieceT p.k p.ns) 48 = true ∧ (∀ k, k < 4 → tabL (ivs g' 0 12) k = ta (tabL (pieceT p.k p.ns)) (tabL (ivs g 0 12)) k) ∧ rlL (ivs g' 0 12) 4 := by
  obtain ⟨f, b, e⟩ := pieceT_lit p.k p.ns
  rw [stepS_lit e] at h
  split at h
  · rename_i hc
    rw [Bool.and_eq_true] at hc
    obtain ⟨rfl, hT⟩ := hc
    obtain ⟨v1, v2⟩ := as_val hT
    refine ⟨_, (Option.some.inj h).symm, by rw [e]; rfl, fun k hk => ?_, v2⟩
    rw [v1 k hk, e]
    have c := cell48b f true
    unfold ta tabL
    rw [c _ (by omega), c _ (by omega), c _ (by omega), c _ (by omega)]
  · cases h
theorem benchS_light : ∀ {l : List Pc} {g : Nat → Int} {o : List Value}, (∀ p ∈ l, okPiece p.k p.ns = true) → Light (tabL (ivs g 0 12)) → benchS (some (ivs g 0 12)) l = some o →
    ∃ g', o = ivs g' 0 12 ∧ Light (tabL (ivs g' 0 12)) ∧ tabL (ivs g' 0 12) 0 ≤ tabL (ivs g 0 12) 0 ∧ (rlL (ivs g 0 12) 4 → rlL (ivs g' 0 12) 4)
  | [], g, o, _, hg, h => ⟨g, (Option.some.inj h).symm, hg, Rat.le_refl, fun h => h⟩
  | p :: r, g, o, ho, hg, h => by
    have h : benchS (stepS p (ivs g 0 12)) r = some o := h
    cases hs : stepS p (ivs g 0 12) with
    | none => rw [hs, benchS_none] at h; cases h
    | some a =>
      rw [hs] at h
      obtain ⟨g1, rfl, b1, m1, k1⟩ := stepS_val hs
      obtain ⟨l1, l2⟩ := (pieceT_val (ho p List.mem_cons_self) b1).1 _ hg
      obtain ⟨g2, e2, q1, q2, q3⟩ := benchS_light (fun q hq => ho q (List.mem_cons_of_mem _ hq)) (light_congr (fun k hk => (m1 k hk).symm) l1) h
      exact ⟨g2, e2, q1, Rat.le_trans q2 (by rw [m1 0 (by omega)]; exact l2), fun _ => q3 k1⟩
theorem prod_good : ∀ {l : List Pc}, (∀ p ∈ l, okPiece p.k p.ns = true) → (∀ p ∈ l, b0 (pieceM p.k p.ns) 12 = true) → Good (prodP l).tf
  | [], _, _ => good_congr (fun k hk => (tf_one k hk).symm) good_unit
  | p :: r, ho, hb => good_congr (fun k hk => (tf_mul _ _ k hk).symm) (good_mul (prod_good (fun q hq => ho q (List.mem_cons_of_mem _ hq)) fun q hq => hb q (List.mem_cons_of_mem _ hq)) (piece_good (ho p List.mem_cons_self) (hb p List.mem_cons_self)))
theorem app_power {m : RM} (hm : Good m.tf) (v : RV) : (m.app v).sf 0 ≤ v.sf 0 := by
  rw [sf_app m v 0 (by omega)]
  exact (hm _ (light_sf v.a v.b v.c v.d)).2
theorem benchSV_lit (s : List UInt8) (v : Nat → Int) : ∃ (g : Nat → Int) (b : Bool), benchSV s v = ivs g 0 12 ++ [.bool b] := by
  have key : ∀ (l : List Pc) (acc : Option (List Value)) (o : List Value), (∀ a, acc = some a → ∃ g : Nat → Int, a = ivs g 0 12) → benchS acc l = some o → ∃ g : Nat → Int, o = ivs g 0 12 := by
    intro l
    induction l with
    | nil => intro acc o h1 h2; exact h1 o h2
    | cons p r ih =>
      intro acc o h1 h2
      refine ih _ o ?_ h2
      intro a ha
      obtain ⟨c, hc, h3⟩ := Option.bind_eq_some_iff.1 ha
      obtain ⟨g, rfl⟩ := h1 c hc
      obtain ⟨h, b, e⟩ := pieceT_lit p.k p.ns
      rw [stepS_lit e] at h3
      split at h3
      · exact ⟨_, (Option.some.inj h3).symm⟩
      · cases h3
  unfold benchSV
  split
  · split
    · rename_i o ho
      obtain ⟨g, rfl⟩ := key _ _ _ (fun a ha => by
        unfold startS at ha
        split at ha
        · exact ⟨v, (Option.some.inj ha).symm⟩
        · cases ha) ho
      exact ⟨g, true, rfl⟩
    · exact ⟨fun _ => 0, false, rfl⟩
  · exact ⟨fun _ => 0, false, rfl⟩
theorem startS_some {g : Nat → Int} {o : List Value} (h : startS g = some o) : rlL (ivs g 0 12) 4 ∧ o = ivs g 0 12 := by
  unfold startS at h
  split at h
  · rename_i hc
    exact ⟨st_get hc, (Option.some.inj h).symm⟩
  · cases h
theorem readV_true {s : List UInt8} {v : Nat → Int} (h : b0 (benchSV s v) 12 = true) : ∃ ps g, benchW s = some ps ∧ rlL (ivs v 0 12) 4 ∧ benchS (some (ivs v 0 12)) ps = some (ivs g 0 12) ∧ benchSV s v = ivs g 0 12 ++ [.bool true] := by
  unfold benchSV at h ⊢
  cases hb : benchW s with
  | none => rw [hb] at h; cases h
  | some ps =>
    rw [hb] at h
    dsimp only at h ⊢
    cases hs : startS v with
    | none => rw [hs, benchS_none] at h; cases h
    | some a =>
      obtain ⟨hv, rfl⟩ := startS_some hs
      rw [hs] at h
      cases hr : benchS (some (ivs v 0 12)) ps with
      | none => rw [hr] at h; cases h
      | some o =>
        have key : ∀ (l : List Pc) (g : Nat → Int) (o : List Value), benchS (some (ivs g 0 12)) l = some o → ∃ g', o = ivs g' 0 12 := by
          intro l
          induction l with
          | nil => intro g o h; exact ⟨g, (Option.some.inj h).symm⟩
          | cons p r ih =>
            intro g o h
            have h : benchS (stepS p (ivs g 0 12)) r = some o := h
            cases hs : stepS p (ivs g 0 12) with
            | none => rw [hs, benchS_none] at h; cases h
            | some a =>
              rw [hs] at h
              obtain ⟨g1, rfl, _⟩ := stepS_val hs
              exact ih g1 o h
        obtain ⟨g, rfl⟩ := key ps v o hr
        exact ⟨ps, g, rfl, hv, hr, rfl⟩
theorem read_law {s : List UInt8} {v g : Nat → Int} (h : benchSV s v = ivs g 0 12 ++ [.bool true]) (hl : Light (tabL (ivs v 0 12))) : Light (tabL (ivs g 0 12)) ∧ tabL (ivs g 0 12) 0 ≤ tabL (ivs v 0 12) 0 ∧ rlL (ivs g 0 12) 4 ∧ rlL (ivs v 0 12) 4 := by
  have hb : b0 (benchSV s v) 12 = true := by rw [h]; rfl
  obtain ⟨ps, g', e1, rv, hr, e2⟩ := readV_true hb
  have eg : ivs g' 0 12 = ivs g 0 12 := by rw [h] at e2; exact (List.append_cancel_right e2).symm
  obtain ⟨g2, e3, l1, l2, l3⟩ := benchS_light (benchW_ok e1) hl hr
  rw [eg] at e3
  rw [← e3] at l1 l2 l3
  exact ⟨l1, l2, l3 rv, rv⟩
theorem run_power {s : List UInt8} {v out : Nat → Int} (hr : benchRV s v = ivs out 0 6 ++ [.bool true]) : (vecN out).sf 0 ≤ (vecN v).sf 0 := by
  have h1 : b0 (benchRV s v) 6 = true := by rw [hr]; rfl
  obtain ⟨ps, o, e1, _, _, e2, m1, k1, b1⟩ := runV_true h1
  have eo : ivs o 0 6 = ivs out 0 6 := by rw [hr] at e2; exact (List.append_cancel_right e2).symm
  have ev : vecN o = vecN out := by unfold vecN; rw [eo]
  rw [← ev, m1]
  exact app_power (prod_good (benchW_ok e1) b1) _
theorem light_of_ltB {a : Nat → Q} (h : ltB a = true) : Light (fun k => reR (a k)) ∧ realQ (a 0) = true := by
  unfold ltB at h
  simp only [Bool.and_eq_true, decide_eq_true_eq] at h
  obtain ⟨hB, hN, h0⟩ := h
  unfold exB at hB
  rw [Bool.and_eq_true] at hB
  obtain ⟨hG, hB⟩ := hB
  unfold exN at hN
  rw [if_pos hG] at hN
  unfold exG at hG
  rw [Bool.and_eq_true] at hG
  obtain ⟨hS, hT⟩ := hG
  have hS : (sqI a).2 = false := by simpa using hS
  have eg : gtQ (sqI a) = (sqI a).1 := by unfold gtQ; rw [hS]; rfl
  rw [eg] at hB hN
  rw [Bool.and_eq_true] at hB
  obtain ⟨s1, s2, s3⟩ := sq_val hS
  have r0 := st_get s1 0 (by omega)
  obtain ⟨t1, _⟩ := times_val (some_getD hT)
  rw [realQ_im r0] at t1
  have hc := cmpF_lt hB.1 s2
  refine ⟨⟨(re_sign r0).1 h0, ?_⟩, r0⟩
  show reR (a 1) * reR (a 1) + reR (a 2) * reR (a 2) + reR (a 3) * reR (a 3) ≤ reR (a 0) * reR (a 0)
  rw [← s3]
  have : ¬ reR ((timesQ (a 0) (a 0)).getD zq) < reR (sqI a).1 := fun hh => by have := hc.2 hh; omega
  rw [t1] at this
  grind
theorem ltB_of {a : Nat → Q} (hl : Light (fun k => reR (a k))) (hS : (sqI a).2 = false) (hT : (timesQ (a 0) (a 0)).isSome = true) : ltB a = true := by
  have eg : gtQ (sqI a) = (sqI a).1 := by unfold gtQ; rw [hS]; rfl
  obtain ⟨s1, s2, s3⟩ := sq_val hS
  have r0 := st_get s1 0 (by omega)
  obtain ⟨t1, t2⟩ := times_val (some_getD hT)
  have tv := times_valid (some_getD hT)
  rw [realQ_im r0] at t1 t2
  have tr := realQ_of tv (by rw [t2]; grind)
  have hG : exG a = true := by unfold exG; rw [hS, hT]; rfl
  obtain ⟨l0, l1⟩ := hl
  have l1 : reR (a 1) * reR (a 1) + reR (a 2) * reR (a 2) + reR (a 3) * reR (a 3) ≤ reR (a 0) * reR (a 0) := l1
  have hc := cmpF_lt tr s2
  have hn : ¬ cmpF ((timesQ (a 0) (a 0)).getD zq) (sqI a).1 < 0 := fun hh => by
    have hh := hc.1 hh
    rw [t1, s3] at hh
    grind
  unfold ltB exB exN
  rw [if_pos hG, hG, eg, tr, s2, decide_eq_true (by omega), decide_eq_true ((re_sign r0).2 l0)]
  rfl
theorem env_to {P : Program} {specs : List Spec} {t : Tr} {E E1 : List Value} {N : List (List Value → Prop)} {K : List Value → Prop} (e : E = E1) (h : sat P specs t E1 N K) : sat P specs t E N K := e ▸ h
theorem K_to {K : List Value → Prop} {a b : List Value} (e : a = b) (h : K b) : K a := e ▸ h
set_option maxHeartbeats 1000000 in
theorem sat_FnBenchRead (P : Program) (cb : CodeB) (hk : CodeOk cb) (ins : List Value) (K : List Value → Prop) (_ : TypedL [.sl] ins) (hp : (lawF cb).pre ins) (hK : K [.bool true]) : sat P (Ss_FnBenchRead cb) tr_FnBenchRead ins [] K := by
  refine law_benchN (n := 12) (fun v0 s v hs hv => ?_) hp hK
  obtain ⟨g, t, e⟩ := benchSV_lit s v
  refine evs_step (call_step rfl ⟨s, v, rfl, by omega, ?_⟩)
  rw [e]
  refine evs_nil (evs_step (call_step rfl ⟨s, v, rfl, ?_⟩))
  rw [e]
  refine evs_nil ?_
  have es : eqL g g 0 12 = .bool true := eqL_true _ _ fun _ _ _ => rfl
  refine ⟨fun _ => ?_, fun hc => ?_⟩
  · refine K_to (b := [if toB (Value.bool (t == t)) = true then eqL g g 0 12 else .bool false]) (by kernel_rfl) ?_
    rw [es, beq_self_eq_true]
    exact hK
  have ht : t = true := by
    have hc : (if toB (if toB (Value.bool (!(t == t))) = true then Value.bool true else .bool (!toB (eqL g g 0 12))) = true then Value.bool true else .bool (!t)) = .bool false := Eq.trans (by kernel_rfl) hc
    rw [es, beq_self_eq_true] at hc
    cases t with
    | true => rfl
    | false => cases hc
  subst ht
  refine evs_step (call_step rfl ⟨trivial, evs_nil ?_⟩)
  refine env_to (E1 := [v0, bv s] ++ ivs v 0 12 ++ (ivs g 0 12 ++ [Value.bool true]) ++ (ivs g 0 12 ++ [Value.bool true]) ++ G_iStokesSquares.out (ivs g 0 12)) (by kernel_rfl) ?_
  refine evs_step (call_step rfl ⟨trivial, evs_nil ?_⟩)
  refine env_to (E1 := [v0, bv s] ++ ivs v 0 12 ++ (ivs g 0 12 ++ [Value.bool true]) ++ (ivs g 0 12 ++ [Value.bool true]) ++ G_iStokesSquares.out (ivs g 0 12) ++ fr4 (timesQ (q3 (ivs g 0 12) (3 * 0)) (q3 (ivs g 0 12) (3 * 0)))) (by kernel_rfl) ?_
  refine evs_step (call_step rfl ⟨trivial, evs_nil ?_⟩)
  refine env_to (E1 := [v0, bv s] ++ ivs v 0 12 ++ (ivs g 0 12 ++ [Value.bool true]) ++ (ivs g 0 12 ++ [Value.bool true]) ++ G_iStokesSquares.out (ivs g 0 12) ++ fr4 (timesQ (q3 (ivs g 0 12) (3 * 0)) (q3 (ivs g 0 12) (3 * 0))) ++ [Value.bool (ltB fun k => q3 (ivs v 0 12) (3 * k))]) (by kernel_rfl) ?_
  refine ⟨fun _ => hK, fun hc => ?_⟩
  have hc : (if toB (if toB (Value.bool (!ltB fun k => q3 (ivs v 0 12) (3 * k))) = true then Value.bool true else .bool (!!(sqI fun k => q3 (ivs g 0 12) (3 * k)).2)) = true then Value.bool true else Value.bool (!(timesQ (q3 (ivs g 0 12) (3 * 0)) (q3 (ivs g 0 12) (3 * 0))).isSome)) = .bool false := Eq.trans (by kernel_rfl) hc
  have hL : (ltB fun k => q3 (ivs v 0 12) (3 * k)) = true := by
    cases h : (ltB fun k => q3 (ivs v 0 12) (3 * k)) with
    | true => rfl
    | false => rw [h] at hc; cases hc
  rw [hL] at hc
  have hS : (sqI fun k => q3 (ivs g 0 12) (3 * k)).2 = false := by
    cases h : (sqI fun k => q3 (ivs g 0 12) (3 * k)).2 with
    | false => rfl
    | true => rw [h] at hc; cases hc
  rw [hS] at hc
  have hT : (timesQ (q3 (ivs g 0 12) (3 * 0)) (q3 (ivs g 0 12) (3 * 0))).isSome = true := by
    cases h : (timesQ (q3 (ivs g 0 12) (3 * 0)) (q3 (ivs g 0 12) (3 * 0))).isSome with
    | true => rfl
    | false => rw [h] at hc; cases hc
  obtain ⟨l1, l2⟩ := light_of_ltB hL
  obtain ⟨q1, q2, q3', q4⟩ := read_law e (show Light (tabL (ivs v 0 12)) from l1)
  have hO : (ltB fun k => q3 (ivs g 0 12) (3 * k)) = true := ltB_of (show Light (tabL (ivs g 0 12)) from q1) hS hT
  have r1 := q3' 0 (by omega)
  have r2 := q4 0 (by omega)
  have hn : cmpF (q3 (ivs g 0 12) (3 * 0)) (q3 (ivs v 0 12) (3 * 0)) ≤ 0 := by
    have hcc := cmpF_gt r1 r2
    have : ¬ 0 < cmpF (q3 (ivs g 0 12) (3 * 0)) (q3 (ivs v 0 12) (3 * 0)) := fun hh => by
      have hh := hcc.1 hh
      have q2 : reR (q3 (ivs g 0 12) (3 * 0)) ≤ reR (q3 (ivs v 0 12) (3 * 0)) := q2
      grind
    omega
  refine evs_step (call_step rfl ⟨trivial, evs_nil (evs_step (call_step rfl ⟨trivial, evs_nil ?_⟩))⟩)
  refine K_to (b := [if toB (if toB (Value.bool (ltB fun k => q3 (ivs g 0 12) (3 * k))) = true then Value.bool (realQ (q3 (ivs g 0 12) (3 * 0)) && realQ (q3 (ivs v 0 12) (3 * 0))) else .bool false) = true then Value.bool (decide (cmpF (q3 (ivs g 0 12) (3 * 0)) (q3 (ivs v 0 12) (3 * 0)) ≤ 0)) else .bool false]) (by kernel_rfl) ?_
  rw [hO, r1, r2, decide_eq_true hn]
  exact hK

end Go.Sx

/- The walk of PathPlays. -/
import Derived.Test.YtcfhbnfincpehaaX8
namespace Go.Proofs.Ytcfhbnfincpehaa
open Go.RowKit Go.Shelf

set_option maxRecDepth 100000 in
theorem PathPlays_j (l : La) (s : St) (turns : List Int) (ha pa : Option Addr) (hc pc : Nat) (ta : Option Addr) (tc : Nat) : Cv Try.prog 7 [.agg #[I l.boards, I l.rows, .slice ha l.hooks.length hc, .slice pa l.patches.length pc], .agg #[I s.b, I s.d], .slice ta turns.length tc] (KAnd (KSl ta turns.length tc encI turns) (KLane l ha hc pa pc)) (.bool true) := by
  refine Cx_of Try.func7 rfl Try.ntmps7 rfl fun w0 M0 => ?_
  refine JC_seq ?_
  refine JC_region ?_
  refine JL_step rfl rfl rfl (jo_box rfl rfl) fun b3 => ?_
  refine JL_step rfl rfl rfl (jo_box rfl rfl) fun b4 => ?_
  refine JL_pd rfl (det_assign rfl) ?_
  refine JL_nil ?_
  refine JE_seq ?_
  refine JC_seq ?_
  refine JC_seq ?_
  refine JC_region ?_
  refine JL_dt rfl (det_loadKA rfl Try.isAgg25 Try.sizeOf25 rfl rfl) ?_
  -- stop: op  1 t16 := (call (Call (value f40) (t15) (25)))   <0>   98
  refine JL_step rfl rfl rfl (jo_callv rfl rfl Try.call40 rfl (lThin_j l ha pa hc pc)) fun _ => ?_
  refine JL_pd rfl (det_not rfl) ?_
  refine JL_pd rfl (det_move rfl) ?_
  -- stop: guard 3
  refine JL_split (d0 := 18) rfl (fun h1 => ?_) (fun h1 => ?_)
  · refine JL_skip rfl rfl h1 rfl ?_
    refine JL_skip rfl rfl h1 rfl ?_
    refine JL_skip rfl rfl h1 rfl ?_
    refine JL_pd rfl (det_pick_t rfl h1 rfl) ?_
    refine JL_nil ?_
    refine JE_seq ?_
    -- stop: cond
    refine JC_cond rfl (fun h2 => ?_) (fun h2 => ?_)
    · refine JC_seq ?_
      refine JC_region ?_
      -- stop: op  0 t23 := (call (Call (value f17) () ()))   99
      refine JL_step rfl rfl rfl (jo_callv rfl rfl Try.call17 rfl (lawake_j)) fun _ => ?_
      refine JL_pd rfl (det_assign rfl) ?_
      refine JL_nil ?_
      refine JE_seq ?_
      refine JC_ret ?_
      refine JE_seq_ret ?_
      -- stop: out
      refine JE_out (.inl rfl) () (results1 Try.results7 (res_tmp rfl)) rfl (List.Perm.refl _) (fun _ _ => trivial)
    · cases h2
  · have hth : l.patches.length ≤ 12 ∧ l.hooks.length ≤ 6 := by simpa [thin] using h1
    refine JL_guard rfl rfl h1 ?_
    refine JL_pd rfl (det_move rfl) ?_
    refine JL_guard rfl rfl h1 ?_
    refine JL_pd rfl (det_len rfl Try.runUnderlying75) ?_
    refine JL_guard rfl rfl h1 ?_
    refine JL_pd rfl (det_gtr rfl rfl) ?_
    refine JL_pd rfl (det_pick_f rfl h1 rfl) ?_
    refine JL_nil ?_
    refine JE_seq ?_
    -- stop: cond
    refine JC_if rfl (fun h2 => ?_) (fun h2 => ?_)
    · refine JC_seq ?_
      refine JC_region ?_
      -- stop: op  0 t23 := (call (Call (value f17) () ()))   99
      refine JL_step rfl rfl rfl (jo_callv rfl rfl Try.call17 rfl (lawake_j)) fun _ => ?_
      refine JL_pd rfl (det_assign rfl) ?_
      refine JL_nil ?_
      refine JE_seq ?_
      refine JC_ret ?_
      refine JE_seq_ret ?_
      -- stop: out
      refine JE_out (.inl rfl) () (results1 Try.results7 (res_tmp rfl)) rfl (List.Perm.refl _) (fun _ _ => trivial)
    · have ht : turns.length ≤ 20 := by omega
      refine JC_skip ?_
      refine JE_seq ?_
      refine JC_seq ?_
      refine JC_region ?_
      refine JL_dt rfl (det_loadKA rfl Try.isAgg25 Try.sizeOf25 rfl rfl) ?_
      -- stop: op  1 t25 := (call (Call (value f19) (t24) (25)))   <0>   101
      refine JL_step rfl rfl rfl (jo_call rfl rfl Try.call19 rfl (lLane_j l ha pa hc pc (by omega) (by omega))) fun ⟨⟨ha1, hc1⟩, pa1, pc1⟩ => ?_
      -- stop: op  2 t26 := (call (Call (value f41) (t25) (37)))   <1 1>   101
      refine JL_step rfl rfl rfl (jo_callv rfl rfl Try.call41 rfl (CheckLane_j l ha1 pa1 hc1 pc1)) fun _ => ?_
      refine JL_pd rfl (det_assign rfl) ?_
      refine JL_nil ?_
      refine JE_seq ?_
      refine JC_seq ?_
      refine JC_draw [] (by kernel_rfl) ?_
      refine JA_dt (i := 0) rfl (by kernel_rfl) (by kernel_rfl) rfl rfl (det_loadKA rfl Try.isAgg25 Try.sizeOf25 rfl rfl) ?_
      refine JA_dt (i := 2) rfl (by kernel_rfl) (by kernel_rfl) rfl rfl (det_loadKA rfl Try.isAgg27 Try.sizeOf27 rfl rfl) ?_
      refine JA_pd (i := 4) rfl (by kernel_rfl) rfl rfl (det_move rfl) ?_
      -- stop: op  1 t29 := (call (Call (value f19) (t28) (25)))   <0>   102
      refine JA_one (i := 1) (by kernel_rfl) rfl rfl rfl (jo_call rfl rfl Try.call19 rfl (lLane_j l ha pa hc pc (by omega) (by omega))) (fun _ => ⟨hsub_drop 0 rfl, fun _ h => h.2⟩) fun ⟨⟨ha2, hc2⟩, pa2, pc2⟩ => ?_
      -- stop: op  3 t31 := (call (Call (value f20) (t30) (27)))   <2 1>   102
      refine JA_one (i := 3) (by kernel_rfl) rfl rfl rfl (jo_callv rfl rfl Try.call20 rfl (lStart_j s)) (fun _ => ⟨hsub_refl, fun _ h => h⟩) fun _ => ?_
      -- stop: op  5 t33 := (call (Call (value f43) (t32) (75)))   <4 3>   102
      refine JA_one (i := 5) (by kernel_rfl) rfl rfl rfl (jo_call rfl rfl Try.call43 rfl (lList_j turns ta tc (by omega))) (fun _ => ⟨hsub_drop 0 rfl, fun _ h => h.2⟩) fun ⟨ra, rc⟩ => ?_
      -- stop: op  6 t34 := (call (Call (value f42) (t29 t31 t33) (37 39 75)))   <1 3 5 5>   102
      by_cases he : startErr l s = 0
      · obtain ⟨V, h0⟩ := valid_start he
        cases hb : (playV l s turns).2.2 with
        | true =>
          refine JA_one (i := 6) (by kernel_rfl) rfl rfl rfl (jo_call rfl rfl Try.call42 rfl (Play_j1 l s turns ha2 pa2 hc2 pc2 ra rc he (by omega) hb)) (fun _ => ⟨hsub_drop 0 rfl, fun _ h => h.2⟩) fun ⟨qa, qc⟩ => ?_
          refine JA_pd (i := 7) rfl (by kernel_rfl) rfl rfl (det_move rfl) ?_
          refine JA_pd (i := 8) rfl (by kernel_rfl) rfl rfl (det_extract rfl rfl) ?_
          refine JA_pd (i := 9) rfl (by kernel_rfl) rfl rfl (det_extract rfl rfl) ?_
          refine JA_pd (i := 10) rfl (by kernel_rfl) rfl rfl (det_extract rfl rfl) ?_
          refine JA_pd (i := 11) rfl (by kernel_rfl) rfl rfl (det_assign rfl) ?_
          refine JA_pd (i := 12) rfl (by kernel_rfl) rfl rfl (det_assign rfl) ?_
          refine JA_pd (i := 13) rfl (by kernel_rfl) rfl rfl (det_assign rfl) ?_
          refine JA_done (by kernel_rfl) ?_
          refine JE_seq ?_
          refine JC_seq ?_
          refine JC_seq ?_
          refine JC_region ?_
          refine JL_pd rfl (det_move rfl) ?_
          refine JL_dt rfl (det_loadKA rfl Try.isAgg25 Try.sizeOf25 rfl rfl) ?_
          -- stop: op  2 t40 := (call (Call (value f32) (t39) (25)))   <1>   103
          refine JL_step rfl rfl rfl (jo_callv rfl rfl Try.call32 rfl (lfault_j l ha pa hc pc)) fun _ => ?_
          refine JL_pd rfl (det_neq rfl rfl) ?_
          refine JL_nil ?_
          refine JE_seq ?_
          -- stop: cond
          refine JC_ifn rfl (fun h3 => ?_) (fun h3 => ?_)
          · exact absurd rfl h3
          · refine JC_skip ?_
            refine JE_seq ?_
            refine JC_seq ?_
            refine JC_region ?_
            refine JL_dt rfl (det_loadKA rfl Try.isAgg25 Try.sizeOf25 rfl rfl) ?_
            refine JL_dt rfl (det_loadKA rfl Try.isAgg27 Try.sizeOf27 rfl rfl) ?_
            -- stop: op  2 t44 := (call (Call (value f21) (t42 t43) (25 27)))   <0 1>   106
            refine JL_step rfl rfl rfl (jo_callv rfl rfl Try.call21 rfl (lstarted_j l s ha pa hc pc)) fun _ => ?_
            refine JL_pd rfl (det_assign rfl) ?_
            refine JL_nil ?_
            refine JE_seq ?_
            refine JC_seq ?_
            refine JC_region ?_
            refine JL_pd rfl (det_assign rfl) ?_
            refine JL_nil ?_
            refine JE_seq ?_
            refine JC_seq ?_
            refine JC_region ?_
            refine JL_pd rfl (det_assign rfl) ?_
            refine JL_nil ?_
            refine JE_seq ?_
            refine JC_seq ?_
            refine JC_seq ?_
            refine JC_region ?_
            refine JL_pd rfl (det_move rfl) ?_
            refine JL_pd rfl (det_eql rfl rfl) ?_
            refine JL_nil ?_
            refine JE_seq ?_
            -- stop: cond
            refine JC_if rfl (fun h4 => ?_) (fun h4 => ?_)
            · refine JC_seq ?_
              refine JC_region ?_
              refine JL_pd rfl (det_assign rfl) ?_
              refine JL_nil ?_
              refine JE_seq ?_
              refine JC_seq ?_
              refine JC_region ?_
              refine JL_dt rfl (det_loadKA rfl Try.isAgg25 Try.sizeOf25 rfl rfl) ?_
              refine JL_dt rfl (det_loadKA rfl Try.isAgg27 Try.sizeOf27 rfl rfl) ?_
              refine JL_pd rfl (det_move rfl) ?_
              -- stop: op  3 t51 := (call (Call (value f44) (t48 t49 t50) (25 27 75)))   <0 1 2>   111
              refine JL_step rfl rfl rfl (jo_call rfl rfl Try.call44 rfl (rPlay_j l s turns ha pa hc pc ta tc V h0 (by omega))) fun ⟨ya, yc⟩ => ?_
              refine JL_pd rfl (det_move rfl) ?_
              refine JL_pd rfl (det_extract rfl rfl) ?_
              refine JL_pd rfl (det_extract rfl rfl) ?_
              refine JL_pd rfl (det_extract rfl rfl) ?_
              refine JL_pd rfl (det_assign rfl) ?_
              refine JL_pd rfl (det_assign rfl) ?_
              refine JL_pd rfl (det_assign rfl) ?_
              refine JL_nil ?_
              refine JE_seq ?_
              refine JC_seq ?_
              refine JC_region ?_
              refine JL_pd rfl (det_move rfl) ?_
              refine JL_pd rfl (det_not rfl) ?_
              refine JL_nil ?_
              refine JE_seq ?_
              -- stop: cond
              rw [hb]
              refine JC_cond rfl (fun h5 => ?_) (fun h5 => ?_)
              · cases h5
              · refine JC_skip ?_
                refine JE_seq ?_
                refine JC_seq ?_
                refine JC_seq ?_
                refine JC_region ?_
                refine JL_pd rfl (det_move rfl) ?_
                refine JL_pd rfl (det_neq rfl rfl) ?_
                refine JL_nil ?_
                refine JE_seq ?_
                -- stop: cond
                refine JC_ifn rfl (fun h6 => ?_) (fun h6 => ?_)
                · exact absurd he h6
                · refine JC_skip ?_
                  refine JE_seq ?_
                  refine JC_seq ?_
                  refine JC_region ?_
                  refine JL_pd rfl (det_move rfl) ?_
                  refine JL_pd rfl (det_eql rfl rfl) ?_
                  refine JL_pd rfl (det_move rfl) ?_
                  -- stop: guard 2
                  refine JL_is (d0 := 76) true rfl (by rfl) (fun g1 => ?_)
                  refine JL_guard rfl rfl g1 ?_
                  refine JL_pd rfl (det_move rfl) ?_
                  refine JL_guard rfl rfl g1 ?_
                  refine JL_pd rfl (det_move rfl) ?_
                  refine JL_guard rfl rfl g1 ?_
                  -- stop: op  5 t79 := (call (Call (value f24) (t77 t78) (30 43)))   <3 4 2 2>   118
                  refine JL_step rfl rfl rfl (jo_callv rfl rfl Try.call24 rfl (lstates_j (playV l s turns).1 (playV l s turns).1 qa ya qc yc (by have := playR_len l turns [s] s; simp only [List.length_singleton] at this; unfold playV; omega))) fun _ => ?_
                  refine JL_pd rfl (det_pick_t rfl g1 rfl) ?_
                  refine JL_pd rfl (det_move rfl) ?_
                  -- stop: guard 7
                  refine JL_is (d0 := 81) true rfl (by simp) (fun g2 => ?_)
                  refine JL_guard rfl rfl g2 ?_
                  refine JL_pd rfl (det_move rfl) ?_
                  refine JL_guard rfl rfl g2 ?_
                  refine JL_pd rfl (det_move rfl) ?_
                  refine JL_guard rfl rfl g2 ?_
                  refine JL_pd rfl (det_eqlB rfl rfl Try.underlying4) ?_
                  refine JL_pd rfl (det_pick_t rfl g2 rfl) ?_
                  refine JL_pd rfl (det_move rfl) ?_
                  -- stop: guard 12
                  refine JL_is (d0 := 86) true rfl (by simp) (fun g3 => ?_)
                  refine JL_guard rfl rfl g3 ?_
                  -- stop: op 13 t87 := (call (Call (value f17) () ()))   <12 12>   118
                  refine JL_step rfl rfl rfl (jo_callv rfl rfl Try.call17 rfl (lawake_j)) fun _ => ?_
                  refine JL_pd rfl (det_pick_t rfl g3 rfl) ?_
                  refine JL_pd rfl (det_assign rfl) ?_
                  refine JL_nil ?_
                  refine JE_seq ?_
                  refine JC_ret ?_
                  -- stop: out
                  refine JE_out (.inl rfl) () (results1 Try.results7 (res_tmp rfl)) rfl (List.Perm.refl _) (fun _ _ => trivial)
            · exact absurd he h4
        | false =>
          refine JA_one (i := 6) (by kernel_rfl) rfl rfl rfl (jo_callv rfl rfl Try.call42 rfl (Play_j0 l s turns ha2 pa2 hc2 pc2 ra rc he (by omega) hb)) (fun _ => ⟨hsub_refl, fun _ h => h⟩) fun _ => ?_
          refine JA_pd (i := 7) rfl (by kernel_rfl) rfl rfl (det_move rfl) ?_
          refine JA_pd (i := 8) rfl (by kernel_rfl) rfl rfl (det_extract rfl rfl) ?_
          refine JA_pd (i := 9) rfl (by kernel_rfl) rfl rfl (det_extract rfl rfl) ?_
          refine JA_pd (i := 10) rfl (by kernel_rfl) rfl rfl (det_extract rfl rfl) ?_
          refine JA_pd (i := 11) rfl (by kernel_rfl) rfl rfl (det_assign rfl) ?_
          refine JA_pd (i := 12) rfl (by kernel_rfl) rfl rfl (det_assign rfl) ?_
          refine JA_pd (i := 13) rfl (by kernel_rfl) rfl rfl (det_assign rfl) ?_
          refine JA_done (by kernel_rfl) ?_
          refine JE_seq ?_
          refine JC_seq ?_
          refine JC_seq ?_
          refine JC_region ?_
          refine JL_pd rfl (det_move rfl) ?_
          refine JL_dt rfl (det_loadKA rfl Try.isAgg25 Try.sizeOf25 rfl rfl) ?_
          -- stop: op  2 t40 := (call (Call (value f32) (t39) (25)))   <1>   103
          refine JL_step rfl rfl rfl (jo_callv rfl rfl Try.call32 rfl (lfault_j l ha pa hc pc)) fun _ => ?_
          refine JL_pd rfl (det_neq rfl rfl) ?_
          refine JL_nil ?_
          refine JE_seq ?_
          -- stop: cond
          refine JC_ifn rfl (fun h3 => ?_) (fun h3 => ?_)
          · exact absurd rfl h3
          · refine JC_skip ?_
            refine JE_seq ?_
            refine JC_seq ?_
            refine JC_region ?_
            refine JL_dt rfl (det_loadKA rfl Try.isAgg25 Try.sizeOf25 rfl rfl) ?_
            refine JL_dt rfl (det_loadKA rfl Try.isAgg27 Try.sizeOf27 rfl rfl) ?_
            -- stop: op  2 t44 := (call (Call (value f21) (t42 t43) (25 27)))   <0 1>   106
            refine JL_step rfl rfl rfl (jo_callv rfl rfl Try.call21 rfl (lstarted_j l s ha pa hc pc)) fun _ => ?_
            refine JL_pd rfl (det_assign rfl) ?_
            refine JL_nil ?_
            refine JE_seq ?_
            refine JC_seq ?_
            refine JC_region ?_
            refine JL_pd rfl (det_assign rfl) ?_
            refine JL_nil ?_
            refine JE_seq ?_
            refine JC_seq ?_
            refine JC_region ?_
            refine JL_pd rfl (det_assign rfl) ?_
            refine JL_nil ?_
            refine JE_seq ?_
            refine JC_seq ?_
            refine JC_seq ?_
            refine JC_region ?_
            refine JL_pd rfl (det_move rfl) ?_
            refine JL_pd rfl (det_eql rfl rfl) ?_
            refine JL_nil ?_
            refine JE_seq ?_
            -- stop: cond
            refine JC_if rfl (fun h4 => ?_) (fun h4 => ?_)
            · refine JC_seq ?_
              refine JC_region ?_
              refine JL_pd rfl (det_assign rfl) ?_
              refine JL_nil ?_
              refine JE_seq ?_
              refine JC_seq ?_
              refine JC_region ?_
              refine JL_dt rfl (det_loadKA rfl Try.isAgg25 Try.sizeOf25 rfl rfl) ?_
              refine JL_dt rfl (det_loadKA rfl Try.isAgg27 Try.sizeOf27 rfl rfl) ?_
              refine JL_pd rfl (det_move rfl) ?_
              -- stop: op  3 t51 := (call (Call (value f44) (t48 t49 t50) (25 27 75)))   <0 1 2>   111
              refine JL_step rfl rfl rfl (jo_call rfl rfl Try.call44 rfl (rPlay_j l s turns ha pa hc pc ta tc V h0 (by omega))) fun ⟨ya, yc⟩ => ?_
              refine JL_pd rfl (det_move rfl) ?_
              refine JL_pd rfl (det_extract rfl rfl) ?_
              refine JL_pd rfl (det_extract rfl rfl) ?_
              refine JL_pd rfl (det_extract rfl rfl) ?_
              refine JL_pd rfl (det_assign rfl) ?_
              refine JL_pd rfl (det_assign rfl) ?_
              refine JL_pd rfl (det_assign rfl) ?_
              refine JL_nil ?_
              refine JE_seq ?_
              refine JC_seq ?_
              refine JC_region ?_
              refine JL_pd rfl (det_move rfl) ?_
              refine JL_pd rfl (det_not rfl) ?_
              refine JL_nil ?_
              refine JE_seq ?_
              -- stop: cond
              rw [hb]
              refine JC_cond rfl (fun h5 => ?_) (fun h5 => ?_)
              · refine JC_region ?_
                refine JL_pd rfl (det_assign rfl) ?_
                refine JL_nil ?_
                refine JE_seq ?_
                refine JC_seq ?_
                refine JC_seq ?_
                refine JC_region ?_
                refine JL_pd rfl (det_move rfl) ?_
                refine JL_pd rfl (det_neq rfl rfl) ?_
                refine JL_nil ?_
                refine JE_seq ?_
                -- stop: cond
                refine JC_ifn rfl (fun h6 => ?_) (fun h6 => ?_)
                · refine JC_seq ?_
                  refine JC_region ?_
                  refine JL_pd rfl (det_move rfl) ?_
                  refine JL_pd rfl (det_move rfl) ?_
                  refine JL_pd rfl (det_eql rfl rfl) ?_
                  refine JL_pd rfl (det_move rfl) ?_
                  -- stop: guard 3
                  refine JL_is (d0 := 62) true rfl (by rfl) (fun g1 => ?_)
                  refine JL_guard rfl rfl g1 ?_
                  refine JL_pd rfl (det_move rfl) ?_
                  refine JL_guard rfl rfl g1 ?_
                  refine JL_pd rfl (det_len rfl Try.runUnderlying30) ?_
                  refine JL_guard rfl rfl g1 ?_
                  refine JL_pd rfl (det_eql rfl rfl) ?_
                  refine JL_pd rfl (det_pick_t rfl g1 rfl) ?_
                  refine JL_pd rfl (det_move rfl) ?_
                  -- stop: guard 8
                  refine JL_is (d0 := 67) true rfl (by rfl) (fun g2 => ?_)
                  refine JL_guard rfl rfl g2 ?_
                  refine JL_pd rfl (det_move rfl) ?_
                  refine JL_guard rfl rfl g2 ?_
                  refine JL_pd rfl (det_not rfl) ?_
                  refine JL_pd rfl (det_pick_t rfl g2 rfl) ?_
                  refine JL_pd rfl (det_move rfl) ?_
                  -- stop: guard 12
                  refine JL_is (d0 := 71) true rfl (by rfl) (fun g3 => ?_)
                  refine JL_guard rfl rfl g3 ?_
                  -- stop: op 13 t72 := (call (Call (value f17) () ()))   <12 12>   116
                  refine JL_step rfl rfl rfl (jo_callv rfl rfl Try.call17 rfl (lawake_j)) fun _ => ?_
                  refine JL_pd rfl (det_pick_t rfl g3 rfl) ?_
                  refine JL_pd rfl (det_assign rfl) ?_
                  refine JL_nil ?_
                  refine JE_seq ?_
                  refine JC_ret ?_
                  refine JE_seq_ret ?_
                  -- stop: out
                  refine JE_out (.inl rfl) () (results1 Try.results7 (res_tmp rfl)) rfl (List.Perm.refl _) (fun _ _ => trivial)
                · exact absurd h6 (by decide)
              · cases h5
            · exact absurd he h4
      · skip
        refine JA_one (i := 6) (by kernel_rfl) rfl rfl rfl (jo_callv rfl rfl Try.call42 rfl (Play_je l s turns ha2 pa2 hc2 pc2 ra rc he)) (fun _ => ⟨hsub_refl, fun _ h => h⟩) fun _ => ?_
        refine JA_pd (i := 7) rfl (by kernel_rfl) rfl rfl (det_move rfl) ?_
        refine JA_pd (i := 8) rfl (by kernel_rfl) rfl rfl (det_extract rfl rfl) ?_
        refine JA_pd (i := 9) rfl (by kernel_rfl) rfl rfl (det_extract rfl rfl) ?_
        refine JA_pd (i := 10) rfl (by kernel_rfl) rfl rfl (det_extract rfl rfl) ?_
        refine JA_pd (i := 11) rfl (by kernel_rfl) rfl rfl (det_assign rfl) ?_
        refine JA_pd (i := 12) rfl (by kernel_rfl) rfl rfl (det_assign rfl) ?_
        refine JA_pd (i := 13) rfl (by kernel_rfl) rfl rfl (det_assign rfl) ?_
        refine JA_done (by kernel_rfl) ?_
        refine JE_seq ?_
        refine JC_seq ?_
        refine JC_seq ?_
        refine JC_region ?_
        refine JL_pd rfl (det_move rfl) ?_
        refine JL_dt rfl (det_loadKA rfl Try.isAgg25 Try.sizeOf25 rfl rfl) ?_
        -- stop: op  2 t40 := (call (Call (value f32) (t39) (25)))   <1>   103
        refine JL_step rfl rfl rfl (jo_callv rfl rfl Try.call32 rfl (lfault_j l ha pa hc pc)) fun _ => ?_
        refine JL_pd rfl (det_neq rfl rfl) ?_
        refine JL_nil ?_
        refine JE_seq ?_
        -- stop: cond
        refine JC_ifn rfl (fun h3 => ?_) (fun h3 => ?_)
        · exact absurd rfl h3
        · refine JC_skip ?_
          refine JE_seq ?_
          refine JC_seq ?_
          refine JC_region ?_
          refine JL_dt rfl (det_loadKA rfl Try.isAgg25 Try.sizeOf25 rfl rfl) ?_
          refine JL_dt rfl (det_loadKA rfl Try.isAgg27 Try.sizeOf27 rfl rfl) ?_
          -- stop: op  2 t44 := (call (Call (value f21) (t42 t43) (25 27)))   <0 1>   106
          refine JL_step rfl rfl rfl (jo_callv rfl rfl Try.call21 rfl (lstarted_j l s ha pa hc pc)) fun _ => ?_
          refine JL_pd rfl (det_assign rfl) ?_
          refine JL_nil ?_
          refine JE_seq ?_
          refine JC_seq ?_
          refine JC_region ?_
          refine JL_pd rfl (det_assign rfl) ?_
          refine JL_nil ?_
          refine JE_seq ?_
          refine JC_seq ?_
          refine JC_region ?_
          refine JL_pd rfl (det_assign rfl) ?_
          refine JL_nil ?_
          refine JE_seq ?_
          refine JC_seq ?_
          refine JC_seq ?_
          refine JC_region ?_
          refine JL_pd rfl (det_move rfl) ?_
          refine JL_pd rfl (det_eql rfl rfl) ?_
          refine JL_nil ?_
          refine JE_seq ?_
          -- stop: cond
          refine JC_if rfl (fun h4 => ?_) (fun h4 => ?_)
          · exact absurd h4 he
          · refine JC_skip ?_
            refine JE_seq ?_
            refine JC_seq ?_
            refine JC_seq ?_
            refine JC_region ?_
            refine JL_pd rfl (det_move rfl) ?_
            refine JL_pd rfl (det_neq rfl rfl) ?_
            refine JL_nil ?_
            refine JE_seq ?_
            -- stop: cond
            refine JC_ifn rfl (fun h6 => ?_) (fun h6 => ?_)
            · refine JC_seq ?_
              refine JC_region ?_
              refine JL_pd rfl (det_move rfl) ?_
              refine JL_pd rfl (det_move rfl) ?_
              refine JL_pd rfl (det_eql rfl rfl) ?_
              refine JL_pd rfl (det_move rfl) ?_
              -- stop: guard 3
              refine JL_is (d0 := 62) true rfl (by simp) (fun g1 => ?_)
              refine JL_guard rfl rfl g1 ?_
              refine JL_pd rfl (det_move rfl) ?_
              refine JL_guard rfl rfl g1 ?_
              refine JL_pd rfl (det_len rfl Try.runUnderlying30) ?_
              refine JL_guard rfl rfl g1 ?_
              refine JL_pd rfl (det_eql rfl rfl) ?_
              refine JL_pd rfl (det_pick_t rfl g1 rfl) ?_
              refine JL_pd rfl (det_move rfl) ?_
              -- stop: guard 8
              refine JL_is (d0 := 67) true rfl (by rfl) (fun g2 => ?_)
              refine JL_guard rfl rfl g2 ?_
              refine JL_pd rfl (det_move rfl) ?_
              refine JL_guard rfl rfl g2 ?_
              refine JL_pd rfl (det_not rfl) ?_
              refine JL_pd rfl (det_pick_t rfl g2 rfl) ?_
              refine JL_pd rfl (det_move rfl) ?_
              -- stop: guard 12
              refine JL_is (d0 := 71) true rfl (by rfl) (fun g3 => ?_)
              refine JL_guard rfl rfl g3 ?_
              -- stop: op 13 t72 := (call (Call (value f17) () ()))   <12 12>   116
              refine JL_step rfl rfl rfl (jo_callv rfl rfl Try.call17 rfl (lawake_j)) fun _ => ?_
              refine JL_pd rfl (det_pick_t rfl g3 rfl) ?_
              refine JL_pd rfl (det_assign rfl) ?_
              refine JL_nil ?_
              refine JE_seq ?_
              refine JC_ret ?_
              refine JE_seq_ret ?_
              -- stop: out
              refine JE_out (.inl rfl) () (results1 Try.results7 (res_tmp rfl)) rfl (List.Perm.refl _) (fun _ _ => trivial)
            · exact absurd h6 he
end Go.Proofs.Ytcfhbnfincpehaa

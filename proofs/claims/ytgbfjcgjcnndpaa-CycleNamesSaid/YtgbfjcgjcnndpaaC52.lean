/- The statements about cycle: CycleNames. -/
import Derived.Test.YtgbfjcgjcnndpaaC51
set_option linter.unusedSimpArgs false
set_option linter.unusedVariables false
namespace Go.Proofs.Ytgbfjcgjcnndpaa
open Go.RowKit Go.Shelf

set_option maxRecDepth 100000 in
set_option maxHeartbeats 2000000 in
theorem CycleNames_j : Cv Try.prog 14 [] KTrue (.bool true) := by
  refine Cx_of Try.func14 rfl Try.ntmps14 rfl fun w0 M0 => ?_
  refine JC_seq ?_
  refine JC_region ?_
  refine JL_pd rfl (det_assign rfl) ?_
  refine JL_nil ?_
  refine JE_seq ?_
  refine JC_seq ?_
  refine JC_region ?_
  -- stop: op  0 t19 := (call (Call (value f49) () ()))   27
  refine JL_step rfl rfl rfl (jo_call rfl rfl Try.call49 rfl (setter_j)) fun x19 => ?_
  refine JL_pd rfl (det_build rfl (bld_77_0_1 _ _)) ?_
  -- stop: op  2 t21 := (call (Call (value f44) (t19 t20) (34 77)))   <0 1 0>   27
  refine JL_step rfl rfl rfl (jo_call rfl rfl Try.call44 rfl (nmWay1_j x19)) fun ⟨w1a, w1c⟩ => ?_
  refine JL_pd rfl (det_move rfl) ?_
  refine JL_pd rfl (det_extract rfl rfl) ?_
  refine JL_pd rfl (det_extract rfl rfl) ?_
  refine JL_pd rfl (det_assign rfl) ?_
  refine JL_pd rfl (det_assign rfl) ?_
  refine JL_nil ?_
  refine JE_seq ?_
  refine JC_seq ?_
  refine JC_region ?_
  -- stop: op  0 t25 := (call (Call (value f49) () ()))   28
  refine JL_step rfl rfl rfl (jo_call rfl rfl Try.call49 rfl (setter_j)) fun x25 => ?_
  refine JL_pd rfl (det_build rfl (bld_77)) ?_
  -- stop: op  2 t27 := (call (Call (value f44) (t25 t26) (34 77)))   <0 1 0>   28
  refine JL_step rfl rfl rfl (jo_call rfl rfl Try.call44 rfl (nmWay0_j x25)) fun ⟨w0a, w0c⟩ => ?_
  refine JL_pd rfl (det_move rfl) ?_
  refine JL_pd rfl (det_extract rfl rfl) ?_
  refine JL_pd rfl (det_extract rfl rfl) ?_
  refine JL_pd rfl (det_assign rfl) ?_
  refine JL_pd rfl (det_assign rfl) ?_
  refine JL_nil ?_
  refine JE_seq ?_
  refine JC_seq ?_
  refine JC_region ?_
  -- stop: op  0 t31 := (call (Call (value f49) () ()))   29
  refine JL_step rfl rfl rfl (jo_call rfl rfl Try.call49 rfl (setter_j)) fun x31 => ?_
  refine JL_step rfl rfl rfl (jo_buildSlice rfl (bsl_23_1_0 _)) fun b32 => ?_
  -- stop: op  2 t33 := (call (Call (value f34) (t31 t32 1) (34 23 3)))   <0 1 0>   29
  refine JL_lit (enc := encI) b32 1 [2] noFp rfl rfl (by decide) ?_
  refine JL_step rfl rfl rfl (jo_call rfl rfl Try.call34 rfl (nmEnds_j x31 (some ⟨b32, 0, none⟩) 1)) fun ⟨e1a, e1c⟩ => ?_
  refine JL_pd rfl (det_move rfl) ?_
  refine JL_pd rfl (det_extract rfl rfl) ?_
  refine JL_pd rfl (det_extract rfl rfl) ?_
  refine JL_pd rfl (det_assign rfl) ?_
  refine JL_pd rfl (det_assign rfl) ?_
  refine JL_nil ?_
  refine JE_seq ?_
  refine JC_seq ?_
  refine JC_region ?_
  -- stop: op  0 t36 := (call (Call (value f49) () ()))   30
  refine JL_step rfl rfl rfl (jo_call rfl rfl Try.call49 rfl (setter_own)) fun ⟨s1, s2, s3⟩ => ?_
  refine JL_step rfl rfl rfl (jo_alloc0 Try.zeroValue34 rfl) fun b7 => ?_
  refine JL_step0 rfl rfl (jo_store rfl rfl rfl (by first | (simp only [splice_norm]; done) | (simp only [splice_norm]; rfl) | rfl) Try.sizeOf34 rfl rfl) fun _ => ?_
  refine JL_nil ?_
  refine JE_seq ?_
  refine JC_seq ?_
  refine JC_region ?_
  refine JL_pd rfl (det_fieldAddr rfl fo_34_3) ?_
  refine JL_dt rfl (det_loadK rfl Try.isAgg32 rfl) ?_
  refine JL_pd rfl (det_build rfl (bld_62_0_1 _ _)) ?_
  refine JL_step rfl rfl rfl (jo_buildSlice rfl (bsl_32_1_0 _ _)) fun b40 => ?_
  refine JL_step rfl rfl rfl (jo_append el_32 rfl rfl rfl rfl (by omega)) fun b41 => ?_
  refine JL_pd rfl (det_fieldAddr rfl fo_34_3) ?_
  refine JL_step0 rfl rfl (jo_store rfl rfl rfl (by first | (simp only [splice_norm]; done) | (simp only [splice_norm]; rfl) | rfl) Try.sizeOf32 rfl rfl) fun _ => ?_
  refine JL_nil ?_
  refine JE_seq ?_
  refine JC_seq ?_
  refine JC_region ?_
  refine JL_dt rfl (det_loadKA rfl Try.isAgg34 Try.sizeOf34 rfl rfl) ?_
  -- stop: op  1 t45 := (call (Call (value f26) (t44) (34)))   <0>   32
  refine JL_keep b7 noFp ?_
  refine JL_slice (enc := encSp) (v := .slice (some ⟨s1, 0, none⟩) 3 3) setM.steps noFp rfl rfl ?_
  rintro _ _ h
  cases h
  refine JL_slice (enc := encI) (v := .slice (some ⟨s2, 0, none⟩) 2 2) [1, 2] noFp rfl rfl ?_
  rintro _ _ h
  cases h
  refine JL_slice (enc := encLk) (v := .slice (some ⟨b41.1, 0, none⟩) 3 b41.2) safeM.locks noFp rfl rfl ?_
  rintro _ _ h
  cases h
  refine JL_step rfl rfl rfl (jo_call rfl rfl Try.call26 rfl (nmSafe_j ⟨some ⟨s1, 0, none⟩, some ⟨s2, 0, none⟩, some ⟨b41.1, 0, none⟩, 3, 2, b41.2⟩)) fun ⟨d1a, d1c⟩ => ?_
  refine JL_pd rfl (det_move rfl) ?_
  refine JL_pd rfl (det_extract rfl rfl) ?_
  refine JL_pd rfl (det_extract rfl rfl) ?_
  refine JL_pd rfl (det_assign rfl) ?_
  refine JL_pd rfl (det_assign rfl) ?_
  refine JL_nil ?_
  refine JE_seq ?_
  refine JC_seq ?_
  refine JC_seq ?_
  refine JC_region ?_
  refine JL_pd rfl (det_move rfl) ?_
  refine JL_pd rfl (det_neq rfl rfl) ?_
  refine JL_pd rfl (det_move rfl) ?_
  -- stop: guard 2
  refine JL_is (d0 := 50) false rfl (by rfl) (fun g1 => ?_)
  refine JL_guard rfl rfl g1 ?_
  refine JL_pd rfl (det_move rfl) ?_
  refine JL_guard rfl rfl g1 ?_
  refine JL_step rfl rfl rfl (jo_buildSlice rfl (bsl_23_2_0_1 _ _)) fun b52 => ?_
  refine JL_guard rfl rfl g1 ?_
  -- stop: op  5 t53 := (call (Call (value f29) (t51 t52) (23 23)))   <3 4 2 2>   33
  refine JL_lit (enc := encI) b52 2 [6, 0] noFp rfl rfl (by decide) ?_
  refine JL_step rfl rfl rfl (jo_callv rfl rfl Try.call29 rfl (ints_j [6, 0] [6, 0] w1a (some ⟨b52, 0, none⟩) w1c 2 (by decide))) fun _ => ?_
  refine JL_guard rfl rfl g1 ?_
  refine JL_pd rfl (det_not rfl) ?_
  refine JL_pd rfl (det_pick_f rfl g1 rfl) ?_
  refine JL_pd rfl (det_move rfl) ?_
  -- stop: guard 8
  skip
  refine JL_is (d0 := 56) false rfl (by rfl) (fun g1 => ?_)
  refine JL_guard rfl rfl g1 ?_
  refine JL_pd rfl (det_move rfl) ?_
  refine JL_guard rfl rfl g1 ?_
  refine JL_pd rfl (det_neq rfl rfl) ?_
  refine JL_pd rfl (det_pick_f rfl g1 rfl) ?_
  refine JL_pd rfl (det_move rfl) ?_
  refine JL_is (d0 := 60) false rfl (by rfl) (fun g2 => ?_)
  refine JL_guard rfl rfl g2 ?_
  refine JL_pd rfl (det_move rfl) ?_
  refine JL_guard rfl rfl g2 ?_
  refine JL_pd rfl (det_len rfl Try.runUnderlying23) ?_
  refine JL_guard rfl rfl g2 ?_
  refine JL_pd rfl (det_neq rfl rfl) ?_
  refine JL_pd rfl (det_pick_f rfl g2 rfl) ?_
  refine JL_pd rfl (det_move rfl) ?_
  refine JL_is (d0 := 65) false rfl (by rfl) (fun g3 => ?_)
  refine JL_guard rfl rfl g3 ?_
  refine JL_pd rfl (det_move rfl) ?_
  refine JL_guard rfl rfl g3 ?_
  refine JL_pd rfl (det_neq rfl rfl) ?_
  refine JL_pd rfl (det_pick_f rfl g3 rfl) ?_
  refine JL_pd rfl (det_move rfl) ?_
  refine JL_is (d0 := 69) false rfl (by rfl) (fun g4 => ?_)
  refine JL_guard rfl rfl g4 ?_
  refine JL_pd rfl (det_move rfl) ?_
  refine JL_guard rfl rfl g4 ?_
  refine JL_pd rfl (det_neq rfl rfl) ?_
  refine JL_pd rfl (det_pick_f rfl g4 rfl) ?_
  refine JL_pd rfl (det_move rfl) ?_
  refine JL_is (d0 := 73) false rfl (by rfl) (fun g5 => ?_)
  refine JL_guard rfl rfl g5 ?_
  -- stop: op 26 t74 := (call (Call (value f49) () ()))   <25 25>   33
  refine JL_step rfl rfl rfl (jo_call rfl rfl Try.call49 rfl (setter_j)) fun x74 => ?_
  refine JL_guard rfl rfl g5 ?_
  refine JL_step rfl rfl rfl (jo_buildSlice rfl (bsl_23_4_0_1_2_3 _ _ _ _)) fun b75 => ?_
  refine JL_guard rfl rfl g5 ?_
  refine JL_pd rfl (det_build rfl (bld_77_0_1 _ _)) ?_
  refine JL_guard rfl rfl g5 ?_
  -- stop: op 29 t77 := (call (Call (value f46) (t74 t75 t76) (34 23 77)))   <26 27 28 26 25>   33
  refine JL_lit (enc := encI) b75 4 [0, 1, 6, 6] noFp rfl rfl (by decide) ?_
  refine JL_step rfl rfl rfl (jo_callv rfl rfl Try.call46 rfl (nmRun1_j x74 (some ⟨b75, 0, none⟩) 4)) fun _ => ?_
  refine JL_guard rfl rfl g5 ?_
  refine JL_pd rfl (det_not rfl) ?_
  refine JL_pd rfl (det_pick_f rfl g5 rfl) ?_
  refine JL_pd rfl (det_move rfl) ?_
  -- stop: guard 32
  skip
  refine JL_is (d0 := 80) false rfl (by rfl) (fun g1 => ?_)
  refine JL_guard rfl rfl g1 ?_
  refine JL_dt rfl (det_loadKA rfl Try.isAgg34 Try.sizeOf34 rfl rfl) ?_
  refine JL_guard rfl rfl g1 ?_
  refine JL_step rfl rfl rfl (jo_buildSlice rfl (bsl_23_4_0_1_2_3 _ _ _ _)) fun b82 => ?_
  refine JL_guard rfl rfl g1 ?_
  refine JL_pd rfl (det_build rfl (bld_77_0_1 _ _)) ?_
  refine JL_guard rfl rfl g1 ?_
  -- stop: op 36 t84 := (call (Call (value f46) (t81 t82 t83) (34 23 77)))   <33 34 35 32 32>   33
  refine JL_lit (enc := encI) b82 4 [0, 1, 6, 6] noFp rfl rfl (by decide) ?_
  refine JL_step rfl rfl rfl (jo_callv rfl rfl Try.call46 rfl (nmRun2_j ⟨some ⟨s1, 0, none⟩, some ⟨s2, 0, none⟩, some ⟨b41.1, 0, none⟩, 3, 2, b41.2⟩ (some ⟨b82, 0, none⟩) 4)) fun _ => ?_
  refine JL_pd rfl (det_pick_f rfl g1 rfl) ?_
  refine JL_nil ?_
  refine JE_seq ?_
  -- stop: cond
  refine JC_cond rfl (fun k1 => ?_) (fun k1 => ?_)
  · cases k1
  · refine JC_skip ?_
    refine JE_seq ?_
    refine JC_seq ?_
    refine JC_region ?_
    -- stop: op  0 t87 := (call (Call (value f49) () ()))   36
    refine JL_step rfl rfl rfl (jo_call rfl rfl Try.call49 rfl (setter_j)) fun x87 => ?_
    refine JL_pd rfl (det_build rfl (bld_77_0_1 _ _)) ?_
    -- stop: op  2 t89 := (call (Call (value f44) (t87 t88) (34 77)))   <0 1 0>   36
    refine JL_step rfl rfl rfl (jo_call rfl rfl Try.call44 rfl (nmWay9_j x87)) fun ⟨w9a, w9c⟩ => ?_
    refine JL_pd rfl (det_move rfl) ?_
    refine JL_pd rfl (det_extract rfl rfl) ?_
    refine JL_pd rfl (det_extract rfl rfl) ?_
    refine JL_pd rfl (det_assign rfl) ?_
    refine JL_nil ?_
    refine JE_seq ?_
    refine JC_seq ?_
    refine JC_region ?_
    -- stop: op  0 t93 := (call (Call (value f49) () ()))   37
    refine JL_step rfl rfl rfl (jo_call rfl rfl Try.call49 rfl (setter_j)) fun x93 => ?_
    refine JL_pd rfl (det_build rfl (bld_77_0 _)) ?_
    -- stop: op  2 t95 := (call (Call (value f44) (t93 t94) (34 77)))   <0 1 0>   37
    have hmk : (madeCells (I 0).cells (21 * 1)).toList = (List.replicate 21 (0 : Int)).flatMap encI := (toList_madeCells_one (I 0) 21).trans rfl
    refine JL_step rfl rfl rfl (jo_call rfl rfl Try.call44 rfl (nmWay2_j x93)) fun ⟨w2a, w2c⟩ => ?_
    refine JL_pd rfl (det_move rfl) ?_
    refine JL_pd rfl (det_extract rfl rfl) ?_
    refine JL_pd rfl (det_extract rfl rfl) ?_
    refine JL_pd rfl (det_assign rfl) ?_
    refine JL_nil ?_
    refine JE_seq ?_
    refine JC_seq ?_
    -- stop: draw
    refine JC_cutK (γ := Unit) (fun _ => True) (fun _u => [(6, I 3)]) (fun _u => []) (fun _u => KTrue) [] (fun K hK => ?_) (fun _u _ => ?_)
    · refine JC_draw [] (by kernel_rfl) ?_
      refine JA_ready (rs := [0, 1]) (by kernel_rfl) rfl ?_
      refine JAl_cons (i := 0) rfl rfl (jo_call rfl rfl Try.call49 rfl (setter_j)) (fun _ => ⟨hsub_drop 0 rfl, fun _ h => h.2⟩) (fun x99 => ?_) ?_
      · refine JA_one (i := 1) (by kernel_rfl) rfl rfl (jo_makeSlice (n := 21) (zv := I 0) (z := 1) (bytes := 8) rfl rfl (by decide) Try.underlying23 (by kernel_rfl) (by decide) (by decide)) (fun _ => ⟨hsub_drop 1 rfl, fun _ h => h⟩) fun b100 => ?_
        refine JA_slice (enc := encI) (v := .slice (some ⟨b100, 0, none⟩) 21 21) (List.replicate 21 0) noFp hmk rfl ?_
        rintro _ _ h
        cases h
        refine JA_one (i := 2) (by kernel_rfl) rfl rfl (jo_callv rfl rfl Try.call34 rfl (nmEndsL_j x99 (some ⟨b100, 0, none⟩) 21)) (fun _ => ⟨hsub_refl, fun _ h => h⟩) fun _ => ?_
        refine JA_pd (i := 3) rfl (by kernel_rfl) rfl rfl (det_move rfl) ?_
        refine JA_pd (i := 4) rfl (by kernel_rfl) rfl rfl (det_extract rfl rfl) ?_
        refine JA_pd (i := 5) rfl (by kernel_rfl) rfl rfl (det_extract rfl rfl) ?_
        refine JA_pd (i := 6) rfl (by kernel_rfl) rfl rfl (det_assign rfl) ?_
        refine JA_done (by kernel_rfl) ?_
        exact JE_cutK hK () trivial (stsub_cons rfl stsub_nil) (ht_nil)
      refine JAl_cons (i := 1) rfl rfl (jo_makeSlice (n := 21) (zv := I 0) (z := 1) (bytes := 8) rfl rfl (by decide) Try.underlying23 (by kernel_rfl) (by decide) (by decide)) (fun _ => ⟨hsub_drop 1 rfl, fun _ h => h⟩) (fun b100 => ?_) ?_
      · refine JA_one (i := 0) (by kernel_rfl) rfl rfl (jo_call rfl rfl Try.call49 rfl (setter_j)) (fun _ => ⟨hsub_drop 0 rfl, fun _ h => h.2⟩) fun x99 => ?_
        refine JA_slice (enc := encI) (v := .slice (some ⟨b100, 0, none⟩) 21 21) (List.replicate 21 0) noFp hmk rfl ?_
        rintro _ _ h
        cases h
        refine JA_one (i := 2) (by kernel_rfl) rfl rfl (jo_callv rfl rfl Try.call34 rfl (nmEndsL_j x99 (some ⟨b100, 0, none⟩) 21)) (fun _ => ⟨hsub_refl, fun _ h => h⟩) fun _ => ?_
        refine JA_pd (i := 3) rfl (by kernel_rfl) rfl rfl (det_move rfl) ?_
        refine JA_pd (i := 4) rfl (by kernel_rfl) rfl rfl (det_extract rfl rfl) ?_
        refine JA_pd (i := 5) rfl (by kernel_rfl) rfl rfl (det_extract rfl rfl) ?_
        refine JA_pd (i := 6) rfl (by kernel_rfl) rfl rfl (det_assign rfl) ?_
        refine JA_done (by kernel_rfl) ?_
        exact JE_cutK hK () trivial (stsub_cons rfl stsub_nil) (ht_nil)
      exact JAl_nil
    dsimp only [List.cons_append, List.nil_append]
    refine JC_seq ?_
    refine JC_region ?_
    -- stop: op  0 t105 := (call (Call (value f49) () ()))   39
    -- stop: op  0 t105 := (call (Call (value f49) () ()))   39
    refine JL_step rfl rfl rfl (jo_call rfl rfl Try.call49 rfl (setter_j)) fun x105 => ?_
    refine JL_step rfl rfl rfl (jo_buildSlice rfl (bsl_23_1_0 _)) fun b106 => ?_
    -- stop: op  2 t107 := (call (Call (value f34) (t105 t106 0) (34 23 3)))   <0 1 0>   39
    refine JL_lit (enc := encI) b106 1 [8] noFp rfl rfl (by decide) ?_
    refine JL_step rfl rfl rfl (jo_callv rfl rfl Try.call34 rfl (nmEnds8_j x105 (some ⟨b106, 0, none⟩) 1)) fun _ => ?_
    refine JL_pd rfl (det_move rfl) ?_
    refine JL_pd rfl (det_extract rfl rfl) ?_
    refine JL_pd rfl (det_extract rfl rfl) ?_
    refine JL_pd rfl (det_assign rfl) ?_
    refine JL_nil ?_
    refine JE_seq ?_
    refine JC_seq ?_
    refine JC_region ?_
    -- stop: op  0 t111 := (call (Call (value f49) () ()))   40
    refine JL_step rfl rfl rfl (jo_call rfl rfl Try.call49 rfl (setter_j)) fun x111 => ?_
    -- stop: op  1 t112 := (call (Call (value f34) (t111 (slice none 0 0) 6) (34 23 3)))   <0 0>   40
    refine JL_know (fun w hw => show KAnd (KSl none 0 0 encI []) _ w from ⟨KSl_none w, hw⟩) ?_
    refine JL_step rfl rfl rfl (jo_callv rfl rfl Try.call34 rfl (nmEnds6_j x111)) fun _ => ?_
    refine JL_pd rfl (det_move rfl) ?_
    refine JL_pd rfl (det_extract rfl rfl) ?_
    refine JL_pd rfl (det_extract rfl rfl) ?_
    refine JL_pd rfl (det_assign rfl) ?_
    refine JL_pd rfl (det_assign rfl) ?_
    refine JL_nil ?_
    refine JE_seq ?_
    refine JC_seq ?_
    refine JC_region ?_
    refine JL_step rfl rfl rfl (jo_buildSlice rfl (bsl_23_1_0 _)) fun b115 => ?_
    refine JL_pd rfl (det_build rfl (bld_34_0_2 _ _ _ _)) ?_
    refine JL_step rfl rfl rfl (jo_alloc0 Try.zeroValue34 rfl) fun b12 => ?_
    refine JL_step0 rfl rfl (jo_store rfl rfl rfl (by first | (simp only [splice_norm]; done) | (simp only [splice_norm]; rfl) | rfl) Try.sizeOf34 rfl rfl) fun _ => ?_
    refine JL_nil ?_
    refine JE_seq ?_
    refine JC_seq ?_
    refine JC_region ?_
    refine JL_dt rfl (det_loadKA rfl Try.isAgg34 Try.sizeOf34 rfl rfl) ?_
    -- stop: op  1 t119 := (call (Call (value f32) (t118) (34)))   <0>   43
    refine JL_lit (enc := encI) b115 1 [0] noFp rfl rfl (by decide) ?_
    refine JL_know (fun w hw => show KAnd (KMc lostM ⟨none, some ⟨b115, 0, none⟩, none, 0, 1, 0⟩) _ w from ⟨⟨KSl_none w, hw.1, KSl_none w⟩, hw⟩) ?_
    refine JL_step rfl rfl rfl (jo_call rfl rfl Try.call32 rfl (nmLost_j ⟨none, some ⟨b115, 0, none⟩, none, 0, 1, 0⟩)) fun ⟨l1a, l1c⟩ => ?_
    refine JL_pd rfl (det_move rfl) ?_
    refine JL_pd rfl (det_extract rfl rfl) ?_
    refine JL_pd rfl (det_extract rfl rfl) ?_
    refine JL_pd rfl (det_assign rfl) ?_
    refine JL_pd rfl (det_assign rfl) ?_
    refine JL_nil ?_
    refine JE_seq ?_
    refine JC_seq ?_
    refine JC_region ?_
    -- stop: op  0 t122 := (call (Call (value f49) () ()))   44
    refine JL_step rfl rfl rfl (jo_call rfl rfl Try.call49 rfl (setter_own)) fun ⟨o1, o2, o3⟩ => ?_
    -- stop: op  1 t123 := (call (Call (value f49) () ()))   <0>   44
    refine JL_step rfl rfl rfl (jo_call rfl rfl Try.call49 rfl (setter_own)) fun ⟨f1, f2, f3⟩ => ?_
    -- stop: op  2 t124 := (call (Call (value f49) () ()))   <1>   44
    refine JL_step rfl rfl rfl (jo_call rfl rfl Try.call49 rfl (setter_j)) fun x124 => ?_
    refine JL_step rfl rfl rfl (jo_alloc0 Try.zeroValue34 rfl) fun b15 => ?_
    refine JL_step rfl rfl rfl (jo_alloc0 Try.zeroValue34 rfl) fun b16 => ?_
    refine JL_step rfl rfl rfl (jo_alloc0 Try.zeroValue34 rfl) fun b17 => ?_
    refine JL_step0 rfl rfl (jo_store rfl rfl rfl (by first | (simp only [splice_norm]; done) | (simp only [splice_norm]; rfl) | rfl) Try.sizeOf34 rfl rfl) fun _ => ?_
    refine JL_step0 rfl rfl (jo_store rfl rfl rfl (by first | (simp only [splice_norm]; done) | (simp only [splice_norm]; rfl) | rfl) Try.sizeOf34 rfl rfl) fun _ => ?_
    refine JL_step0 rfl rfl (jo_store rfl rfl rfl (by first | (simp only [splice_norm]; done) | (simp only [splice_norm]; rfl) | rfl) Try.sizeOf34 rfl rfl) fun _ => ?_
    refine JL_nil ?_
    refine JE_seq ?_
    refine JC_seq ?_
    refine JC_region ?_
    refine JL_pd rfl (det_fieldAddr rfl fo_34_3) ?_
    refine JL_dt rfl (det_loadK rfl Try.isAgg32 rfl) ?_
    refine JL_pd rfl (det_indexOwn (i := 0) rfl rfl (by first | rfl | omega) (by first | assumption | omega) Try.runUnderlying32 Try.sizeOf62) ?_
    refine JL_pd rfl (det_fieldAddr rfl fo_62_1) ?_
    refine JL_step0 rfl rfl (jo_storeO rfl rfl rfl rfl Try.sizeOf3 (by decide) rfl) fun _ => ?_
    refine JL_nil ?_
    refine JE_seq ?_
    refine JC_seq ?_
    refine JC_region ?_
    refine JL_pd rfl (det_fieldAddr rfl fo_34_1) ?_
    refine JL_dt rfl (det_loadK rfl Try.isAgg31 rfl) ?_
    refine JL_pd rfl (det_indexOwn (i := 0) rfl rfl (by first | rfl | omega) (by first | assumption | omega) Try.runUnderlying31 Try.sizeOf94) ?_
    refine JL_pd rfl (det_fieldAddr rfl fo_94_1) ?_
    refine JL_step0 rfl rfl (jo_storeO rfl rfl rfl rfl Try.sizeOf3 (by decide) rfl) fun _ => ?_
    refine JL_nil ?_
    refine JE_seq ?_
    refine JC_seq ?_
    refine JC_region ?_
    refine JL_step rfl rfl rfl (jo_buildSlice rfl (bsl_23_2_0_1 _ _)) fun b133 => ?_
    refine JL_pd rfl (det_fieldAddr rfl fo_34_2) ?_
    refine JL_step0 rfl rfl (jo_store rfl rfl rfl (by first | (simp only [splice_norm]; done) | (simp only [splice_norm]; rfl) | rfl) Try.sizeOf23 rfl rfl) fun _ => ?_
    refine JL_nil ?_
    refine JE_seq ?_
    refine JC_seq ?_
    refine JC_region ?_
    refine JL_pd rfl (det_move rfl) ?_
    refine JL_pd rfl (det_eql rfl rfl) ?_
    refine JL_pd rfl (det_move rfl) ?_
    -- stop: guard 2
    refine JL_slice (enc := encSp) (v := .slice (some ⟨o1, 0, none⟩) 3 3) setM.steps noFp rfl rfl ?_
    rintro _ _ h
    cases h
    refine JL_slice (enc := encI) (v := .slice (some ⟨o2, 0, none⟩) 2 2) [1, 2] noFp rfl rfl ?_
    rintro _ _ h
    cases h
    refine JL_slice (enc := encLk) (v := .slice (some ⟨o3, 0, none⟩) 2 2) oddM.locks noFp rfl rfl ?_
    rintro _ _ h
    cases h
    refine JL_slice (enc := encSp) (v := .slice (some ⟨f1, 0, none⟩) 3 3) farM.steps noFp rfl rfl ?_
    rintro _ _ h
    cases h
    refine JL_slice (enc := encI) (v := .slice (some ⟨f2, 0, none⟩) 2 2) [1, 2] noFp rfl rfl ?_
    rintro _ _ h
    cases h
    refine JL_slice (enc := encLk) (v := .slice (some ⟨f3, 0, none⟩) 2 2) setM.locks noFp rfl rfl ?_
    rintro _ _ h
    cases h
    refine JL_lit (enc := encI) b133 2 [2, 1] noFp rfl rfl (by decide) ?_
    skip
    refine JL_is (d0 := 137) true rfl (by rfl) (fun g1 => ?_)
    refine JL_guard rfl rfl g1 ?_
    refine JL_pd rfl (det_move rfl) ?_
    refine JL_guard rfl rfl g1 ?_
    refine JL_pd rfl (det_eql rfl rfl) ?_
    refine JL_pd rfl (det_pick_t rfl g1 rfl) ?_
    refine JL_pd rfl (det_move rfl) ?_
    refine JL_is (d0 := 141) true rfl (by rfl) (fun g2 => ?_)
    refine JL_guard rfl rfl g2 ?_
    refine JL_pd rfl (det_move rfl) ?_
    refine JL_guard rfl rfl g2 ?_
    refine JL_pd rfl (det_eql rfl rfl) ?_
    refine JL_pd rfl (det_pick_t rfl g2 rfl) ?_
    refine JL_pd rfl (det_move rfl) ?_
    refine JL_is (d0 := 145) true rfl (by rfl) (fun g3 => ?_)
    refine JL_guard rfl rfl g3 ?_
    refine JL_pd rfl (det_move rfl) ?_
    refine JL_guard rfl rfl g3 ?_
    refine JL_pd rfl (det_eql rfl rfl) ?_
    refine JL_pd rfl (det_pick_t rfl g3 rfl) ?_
    refine JL_pd rfl (det_move rfl) ?_
    refine JL_is (d0 := 149) true rfl (by rfl) (fun g4 => ?_)
    refine JL_guard rfl rfl g4 ?_
    refine JL_pd rfl (det_move rfl) ?_
    refine JL_guard rfl rfl g4 ?_
    refine JL_pd rfl (det_eql rfl rfl) ?_
    refine JL_pd rfl (det_pick_t rfl g4 rfl) ?_
    refine JL_pd rfl (det_move rfl) ?_
    refine JL_is (d0 := 153) true rfl (by rfl) (fun g5 => ?_)
    refine JL_guard rfl rfl g5 ?_
    refine JL_pd rfl (det_move rfl) ?_
    refine JL_guard rfl rfl g5 ?_
    refine JL_pd rfl (det_eql rfl rfl) ?_
    refine JL_pd rfl (det_pick_t rfl g5 rfl) ?_
    refine JL_pd rfl (det_move rfl) ?_
    refine JL_is (d0 := 157) true rfl (by rfl) (fun g6 => ?_)
    refine JL_guard rfl rfl g6 ?_
    refine JL_dt rfl (det_loadKA rfl Try.isAgg34 Try.sizeOf34 rfl rfl) ?_
    refine JL_guard rfl rfl g6 ?_
    -- stop: op 24 t159 := (call (Call (value f19) (t158) (34)))   <23 22 22>   48
    refine JL_step rfl rfl rfl (jo_callv rfl rfl Try.call19 rfl (nmCheck_j oddM ⟨some ⟨o1, 0, none⟩, some ⟨o2, 0, none⟩, some ⟨o3, 0, none⟩, 3, 2, 2⟩ 1 nm_f0.2.2.2.1)) fun _ => ?_
    refine JL_guard rfl rfl g6 ?_
    refine JL_pd rfl (det_eql rfl rfl) ?_
    refine JL_pd rfl (det_pick_t rfl g6 rfl) ?_
    refine JL_pd rfl (det_move rfl) ?_
    -- stop: guard 27
    skip
    refine JL_is (d0 := 162) true rfl (by rfl) (fun g1 => ?_)
    refine JL_guard rfl rfl g1 ?_
    refine JL_dt rfl (det_loadKA rfl Try.isAgg34 Try.sizeOf34 rfl rfl) ?_
    refine JL_guard rfl rfl g1 ?_
    -- stop: op 29 t164 := (call (Call (value f19) (t163) (34)))   <28 27 27>   48
    refine JL_step rfl rfl rfl (jo_callv rfl rfl Try.call19 rfl (nmCheck_j farM ⟨some ⟨f1, 0, none⟩, some ⟨f2, 0, none⟩, some ⟨f3, 0, none⟩, 3, 2, 2⟩ 1 nm_f0.2.2.2.2.1)) fun _ => ?_
    refine JL_guard rfl rfl g1 ?_
    refine JL_pd rfl (det_eql rfl rfl) ?_
    refine JL_pd rfl (det_pick_t rfl g1 rfl) ?_
    refine JL_pd rfl (det_move rfl) ?_
    -- stop: guard 32
    skip
    refine JL_is (d0 := 167) true rfl (by rfl) (fun g1 => ?_)
    refine JL_guard rfl rfl g1 ?_
    refine JL_dt rfl (det_loadKA rfl Try.isAgg34 Try.sizeOf34 rfl rfl) ?_
    refine JL_guard rfl rfl g1 ?_
    -- stop: op 34 t169 := (call (Call (value f19) (t168) (34)))   <33 32 32>   48
    refine JL_step rfl rfl rfl (jo_callv rfl rfl Try.call19 rfl (nmCheck_j downM ⟨x124.sa, some ⟨b133, 0, none⟩, x124.ka, x124.sc, 2, x124.kc⟩ 1 nm_f0.2.2.2.2.2.1)) fun _ => ?_
    refine JL_guard rfl rfl g1 ?_
    refine JL_pd rfl (det_eql rfl rfl) ?_
    refine JL_pd rfl (det_pick_t rfl g1 rfl) ?_
    refine JL_pd rfl (det_move rfl) ?_
    -- stop: guard 37
    skip
    refine JL_is (d0 := 172) true rfl (by rfl) (fun g1 => ?_)
    refine JL_guard rfl rfl g1 ?_
    refine JL_pd rfl (det_build rfl (bld_34)) ?_
    refine JL_guard rfl rfl g1 ?_
    -- stop: op 39 t174 := (call (Call (value f19) (t173) (34)))   <38 37 37>   48
    refine JL_know (fun w hw => show KAnd (KMc ⟨0, [], [], []⟩ ⟨none, none, none, 0, 0, 0⟩) _ w from ⟨⟨KSl_none w, KSl_none w, KSl_none w⟩, hw⟩) ?_
    refine JL_step rfl rfl rfl (jo_callv rfl rfl Try.call19 rfl (nmCheck_j ⟨0, [], [], []⟩ ⟨none, none, none, 0, 0, 0⟩ 1 nm_f0.2.2.2.2.2.2)) fun _ => ?_
    refine JL_guard rfl rfl g1 ?_
    refine JL_pd rfl (det_eql rfl rfl) ?_
    refine JL_pd rfl (det_pick_t rfl g1 rfl) ?_
    refine JL_pd rfl (det_move rfl) ?_
    -- stop: guard 42
    skip
    refine JL_is (d0 := 177) true rfl (by rfl) (fun g1 => ?_)
    refine JL_guard rfl rfl g1 ?_
    refine JL_step rfl rfl rfl (jo_makeSlice (n := 25) (zv := .agg #[I 0, I 0, I 0]) (z := 3) (bytes := 24) rfl rfl (by decide) Try.underlying31 (by kernel_rfl) (by decide) (by decide)) fun b178 => ?_
    refine JL_guard rfl rfl g1 ?_
    refine JL_pd rfl (det_build rfl (bld_34_0_1 _ _ _ _)) ?_
    refine JL_guard rfl rfl g1 ?_
    -- stop: op 45 t180 := (call (Call (value f19) (t179) (34)))   <44 42 42>   48
    refine JL_slice (enc := encSp) (v := .slice (some ⟨b178, 0, none⟩) 25 25) (List.replicate 25 ⟨0, 0, 0⟩) noFp (by kernel_rfl) rfl ?_
    rintro _ _ h
    cases h
    refine JL_know (fun w hw => show KAnd (KMc ⟨1, List.replicate 25 ⟨0, 0, 0⟩, [], []⟩ ⟨some ⟨b178, 0, none⟩, none, none, 25, 0, 0⟩) _ w from ⟨⟨hw.1, KSl_none w, KSl_none w⟩, hw⟩) ?_
    refine JL_step rfl rfl rfl (jo_callv rfl rfl Try.call19 rfl (nmCheck_j ⟨1, List.replicate 25 ⟨0, 0, 0⟩, [], []⟩ ⟨some ⟨b178, 0, none⟩, none, none, 25, 0, 0⟩ 3 nm_f25.1)) fun _ => ?_
    refine JL_guard rfl rfl g1 ?_
    refine JL_pd rfl (det_eql rfl rfl) ?_
    refine JL_pd rfl (det_pick_t rfl g1 rfl) ?_
    refine JL_pd rfl (det_move rfl) ?_
    -- stop: guard 48
    skip
    refine JL_is (d0 := 183) true rfl (by rfl) (fun g1 => ?_)
    refine JL_guard rfl rfl g1 ?_
    refine JL_step rfl rfl rfl (jo_makeSlice (n := 41) (zv := .agg #[I 0, I 0]) (z := 2) (bytes := 16) rfl rfl (by decide) Try.underlying32 (by kernel_rfl) (by decide) (by decide)) fun b184 => ?_
    refine JL_guard rfl rfl g1 ?_
    refine JL_pd rfl (det_build rfl (bld_34_0_3 _ _ _ _)) ?_
    refine JL_guard rfl rfl g1 ?_
    -- stop: op 51 t186 := (call (Call (value f19) (t185) (34)))   <50 48 48>   48
    refine JL_slice (enc := encLk) (v := .slice (some ⟨b184, 0, none⟩) 41 41) (List.replicate 41 ⟨0, 0⟩) noFp (by kernel_rfl) rfl ?_
    rintro _ _ h
    cases h
    refine JL_know (fun w hw => show KAnd (KMc ⟨1, [], [], List.replicate 41 ⟨0, 0⟩⟩ ⟨none, none, some ⟨b184, 0, none⟩, 0, 0, 41⟩) _ w from ⟨⟨KSl_none w, KSl_none w, hw.1⟩, hw⟩) ?_
    refine JL_step rfl rfl rfl (jo_callv rfl rfl Try.call19 rfl (nmCheck_j ⟨1, [], [], List.replicate 41 ⟨0, 0⟩⟩ ⟨none, none, some ⟨b184, 0, none⟩, 0, 0, 41⟩ 3 nm_f25.2)) fun _ => ?_
    refine JL_guard rfl rfl g1 ?_
    refine JL_pd rfl (det_eql rfl rfl) ?_
    refine JL_pd rfl (det_pick_t rfl g1 rfl) ?_
    refine JL_pd rfl (det_move rfl) ?_
    -- stop: guard 54
    skip
    refine JL_is (d0 := 189) true rfl (by rfl) (fun g1 => ?_)
    refine JL_guard rfl rfl g1 ?_
    refine JL_step rfl rfl rfl (jo_callv rfl rfl Try.call18 rfl (wakes_j)) fun _ => ?_
    refine JL_pd rfl (det_pick_t rfl g1 rfl) ?_
    refine JL_pd rfl (det_assign rfl) ?_
    refine JL_nil ?_
    refine JE_seq ?_
    refine JC_ret ?_
    -- stop: out
    refine JE_out (.inl rfl) () (results1 Try.results14 (res_tmp rfl)) rfl (List.Perm.refl _) (fun _ _ => trivial)
end Go.Proofs.Ytgbfjcgjcnndpaa

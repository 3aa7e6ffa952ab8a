/- The statements about path: awake. -/
import Derived.Test.YtcfhbnfincpehaaX3
namespace Go.Proofs.Ytcfhbnfincpehaa
open Go.RowKit Go.Shelf

theorem awake_start : startErr oiledL ⟨12, 2⟩ = 0 := by decide +kernel
theorem awake_aims : aimsErr oiledL aimedP = 0 := by decide +kernel
theorem awake_rowL : rowL oiledL ⟨12, 2⟩ 4 = [⟨10, -2⟩, ⟨14, -1⟩] := by decide +kernel
theorem awake_rowV : rowV oiledL ⟨12, 2⟩ 4 = 0 := by decide +kernel
theorem awake_turn : turnV oiledL ⟨12, 2⟩ = ⟨13, 15⟩ := by decide +kernel
theorem awake_best : bestF (aimsL oiledL aimedP) = (⟨12, 2⟩, 1) := by decide +kernel
abbrev awL : List St := [⟨10, -2⟩, ⟨14, -1⟩]
theorem awakeR_j (ha pa : Option Addr) (hc pc : Nat) : Cr Try.prog 18 [.agg #[I 20, I 5, .slice ha 2 hc, .slice pa 1 pc], .agg #[I 12, I 2], I 4] (KLane oiledL ha hc pa pc)
    (fun q : Option Addr × Nat => .tuple #[.slice q.1 awL.length q.2, .int .u8 0, I 0]) (fun q => KSl q.1 awL.length q.2 encSt awL) := by
  have h := Reach_jo oiledL ⟨12, 2⟩ 4 ha pa hc pc awake_start (by decide)
  rw [awake_rowL, awake_rowV] at h
  exact h
theorem awakeT_j (ha pa : Option Addr) (hc pc : Nat) : Cv Try.prog 25 [.agg #[I 20, I 5, .slice ha 2 hc, .slice pa 1 pc], .agg #[I 12, I 2]] (KLane oiledL ha hc pa pc) (.tuple #[.agg #[I 13, I 15], I 0]) := by
  have h := Turn_jo oiledL ⟨12, 2⟩ ha pa hc pc awake_start
  rw [awake_turn] at h
  exact h
theorem awakeB_j (ha pa : Option Addr) (hc pc : Nat) : Cv Try.prog 31 [.agg #[I 20, I 5, .slice ha 2 hc, .slice pa 1 pc], .agg #[I 9, I 15, I (-3), I (-1)]] (KLane oiledL ha hc pa pc) (.tuple #[.agg #[I 12, I 2], I 1, I 0]) := by
  have h := Best_jo oiledL aimedP ha pa hc pc awake_aims
  rw [awake_best] at h
  exact h
set_option maxRecDepth 100000 in
theorem lawake_j : Cv Try.prog 17 [] KTrue (.bool true) := by
  refine Cx_of Try.func17 rfl Try.ntmps17 rfl fun w0 M0 => ?_
  refine JC_seq ?_
  refine JC_region ?_
  refine JL_pd rfl (det_assign rfl) ?_
  refine JL_nil ?_
  refine JE_seq ?_
  refine JC_seq ?_
  refine JC_region ?_
  -- stop: op  0 t10 := (call (Call (value f52) () ()))   77
  refine JL_step rfl rfl rfl (jo_call rfl rfl Try.call52 rfl (loiled_j)) fun ⟨⟨ha, hc⟩, pa, pc⟩ => ?_
  refine JL_pd rfl (det_build rfl (bld_39_0_1 _ _)) ?_
  -- stop: op  2 t12 := (call (Call (value f18) (t10 t11 4) (37 39 3)))   <0 1 0>   77
  refine JL_step rfl rfl rfl (jo_call rfl rfl Try.call18 rfl (awakeR_j ha pa hc pc)) fun ⟨ra, rc⟩ => ?_
  refine JL_pd rfl (det_move rfl) ?_
  refine JL_pd rfl (det_extract rfl rfl) ?_
  refine JL_pd rfl (det_extract rfl rfl) ?_
  refine JL_pd rfl (det_extract rfl rfl) ?_
  refine JL_pd rfl (det_assign rfl) ?_
  refine JL_pd rfl (det_assign rfl) ?_
  refine JL_pd rfl (det_assign rfl) ?_
  refine JL_nil ?_
  refine JE_seq ?_
  refine JC_seq ?_
  refine JC_region ?_
  -- stop: op  0 t17 := (call (Call (value f52) () ()))   78
  refine JL_step rfl rfl rfl (jo_call rfl rfl Try.call52 rfl (loiled_j)) fun ⟨⟨ha2, hc2⟩, pa2, pc2⟩ => ?_
  refine JL_pd rfl (det_build rfl (bld_39_0_1 _ _)) ?_
  -- stop: op  2 t19 := (call (Call (value f25) (t17 t18) (37 39)))   <0 1 0>   78
  refine JL_step rfl rfl rfl (jo_callv rfl rfl Try.call25 rfl (awakeT_j ha2 pa2 hc2 pc2)) fun _ => ?_
  refine JL_pd rfl (det_move rfl) ?_
  refine JL_pd rfl (det_extract rfl rfl) ?_
  refine JL_pd rfl (det_extract rfl rfl) ?_
  refine JL_step rfl rfl rfl (jo_alloc0 Try.zeroValue49 rfl) fun b4 => ?_
  refine JL_step0 rfl rfl (jo_store rfl rfl rfl (by first | (simp only [splice_norm]; done) | (simp only [splice_norm]; rfl) | rfl) Try.sizeOf49 rfl rfl) fun _ => ?_
  refine JL_pd rfl (det_assign rfl) ?_
  refine JL_nil ?_
  refine JE_seq ?_
  refine JC_seq ?_
  refine JC_region ?_
  -- stop: op  0 t23 := (call (Call (value f52) () ()))   79
  refine JL_step rfl rfl rfl (jo_call rfl rfl Try.call52 rfl (loiled_j)) fun ⟨⟨ha3, hc3⟩, pa3, pc3⟩ => ?_
  -- stop: op  1 t24 := (call (Call (value f53) () ()))   <0>   79
  refine JL_step rfl rfl rfl (jo_callv rfl rfl Try.call53 rfl (laimed_j)) fun _ => ?_
  -- stop: op  2 t25 := (call (Call (value f31) (t23 t24) (37 62)))   <0 1 1>   79
  refine JL_step rfl rfl rfl (jo_callv rfl rfl Try.call31 rfl (awakeB_j ha3 pa3 hc3 pc3)) fun _ => ?_
  refine JL_pd rfl (det_move rfl) ?_
  refine JL_pd rfl (det_extract rfl rfl) ?_
  refine JL_pd rfl (det_extract rfl rfl) ?_
  refine JL_pd rfl (det_extract rfl rfl) ?_
  refine JL_step rfl rfl rfl (jo_alloc0 Try.zeroValue39 rfl) fun b6 => ?_
  refine JL_step0 rfl rfl (jo_store rfl rfl rfl (by first | (simp only [splice_norm]; done) | (simp only [splice_norm]; rfl) | rfl) Try.sizeOf39 rfl rfl) fun _ => ?_
  refine JL_pd rfl (det_assign rfl) ?_
  refine JL_pd rfl (det_assign rfl) ?_
  refine JL_nil ?_
  refine JE_seq ?_
  refine JC_seq ?_
  refine JC_draw [] (by kernel_rfl) ?_
  refine JA_pd (i := 0) rfl (by kernel_rfl) rfl rfl (det_move rfl) ?_
  refine JA_pd (i := 1) rfl (by kernel_rfl) rfl rfl (det_eql rfl rfl) ?_
  refine JA_pd (i := 2) rfl (by kernel_rfl) rfl rfl (det_move rfl) ?_
  -- stop: guard 2
  refine JA_is (d0 := 31) true rfl (by decide) (fun h1 => ?_)
  refine JA_gpd (i := 3) rfl (by kernel_rfl) rfl rfl rfl rfl h1 (det_move rfl) ?_
  refine JA_gpd (i := 4) rfl (by kernel_rfl) rfl rfl rfl rfl h1 (det_eql rfl rfl) ?_
  refine JA_pd (i := 5) rfl (by kernel_rfl) rfl rfl (det_pick_t rfl h1 rfl) ?_
  refine JA_pd (i := 6) rfl (by kernel_rfl) rfl rfl (det_move rfl) ?_
  refine JA_is (d0 := 35) true rfl (by decide) (fun h2 => ?_)
  refine JA_gpd (i := 7) rfl (by kernel_rfl) rfl rfl rfl rfl h2 (det_move rfl) ?_
  refine JA_gpd (i := 8) rfl (by kernel_rfl) rfl rfl rfl rfl h2 (det_len rfl Try.runUnderlying30) ?_
  refine JA_gpd (i := 9) rfl (by kernel_rfl) rfl rfl rfl rfl h2 (det_eql rfl rfl) ?_
  refine JA_pd (i := 10) rfl (by kernel_rfl) rfl rfl (det_pick_t rfl h2 rfl) ?_
  refine JA_pd (i := 11) rfl (by kernel_rfl) rfl rfl (det_move rfl) ?_
  refine JA_is (d0 := 40) true rfl (by decide) (fun h3 => ?_)
  refine JA_gpd (i := 12) rfl (by kernel_rfl) rfl rfl rfl rfl h3 (det_move rfl) ?_
  refine JA_gdt (i := 13) rfl (by kernel_rfl) (by kernel_rfl) rfl rfl rfl rfl h3 (det_indexAddr (i := 0) rfl rfl (by first | rfl | omega) (by first | assumption | omega | decide) Try.runUnderlying30 Try.sizeOf39) ?_
  refine JA_gdt (i := 14) rfl (by kernel_rfl) (by kernel_rfl) rfl rfl rfl rfl h3 (det_loadEA rfl (by first | assumption | omega | decide) Try.isAgg39 Try.sizeOf39 rfl rfl rfl) ?_
  refine JA_gpd (i := 15) rfl (by kernel_rfl) rfl rfl rfl rfl h3 (det_build rfl (bld_39_0_1 _ _)) ?_
  refine JA_gpd (i := 16) rfl (by kernel_rfl) rfl rfl rfl rfl h3 (det_eqlA rfl rfl egt_39 (eqa_39 _ _ _ _)) ?_
  refine JA_pd (i := 17) rfl (by kernel_rfl) rfl rfl (det_pick_t rfl h3 rfl) ?_
  refine JA_pd (i := 18) rfl (by kernel_rfl) rfl rfl (det_move rfl) ?_
  refine JA_is (d0 := 47) true rfl (by decide) (fun h4 => ?_)
  refine JA_gpd (i := 19) rfl (by kernel_rfl) rfl rfl rfl rfl h4 (det_move rfl) ?_
  refine JA_gdt (i := 20) rfl (by kernel_rfl) (by kernel_rfl) rfl rfl rfl rfl h4 (det_indexAddr (i := 1) rfl rfl (by first | rfl | omega) (by first | assumption | omega | decide) Try.runUnderlying30 Try.sizeOf39) ?_
  refine JA_gdt (i := 21) rfl (by kernel_rfl) (by kernel_rfl) rfl rfl rfl rfl h4 (det_loadEA rfl (by first | assumption | omega | decide) Try.isAgg39 Try.sizeOf39 rfl rfl rfl) ?_
  refine JA_gpd (i := 22) rfl (by kernel_rfl) rfl rfl rfl rfl h4 (det_build rfl (bld_39_0_1 _ _)) ?_
  refine JA_gpd (i := 23) rfl (by kernel_rfl) rfl rfl rfl rfl h4 (det_eqlA rfl rfl egt_39 (eqa_39 _ _ _ _)) ?_
  refine JA_pd (i := 24) rfl (by kernel_rfl) rfl rfl (det_pick_t rfl h4 rfl) ?_
  refine JA_pd (i := 25) rfl (by kernel_rfl) rfl rfl (det_move rfl) ?_
  refine JA_is (d0 := 54) true rfl (by decide) (fun h5 => ?_)
  refine JA_gpd (i := 26) rfl (by kernel_rfl) rfl rfl rfl rfl h5 (det_move rfl) ?_
  refine JA_gpd (i := 27) rfl (by kernel_rfl) rfl rfl rfl rfl h5 (det_eql rfl rfl) ?_
  refine JA_pd (i := 28) rfl (by kernel_rfl) rfl rfl (det_pick_t rfl h5 rfl) ?_
  refine JA_pd (i := 29) rfl (by kernel_rfl) rfl rfl (det_move rfl) ?_
  refine JA_is (d0 := 58) true rfl (by decide) (fun h6 => ?_)
  refine JA_gdt (i := 30) rfl (by kernel_rfl) (by kernel_rfl) rfl rfl rfl rfl h6 (det_loadKA rfl Try.isAgg49 Try.sizeOf49 rfl rfl) ?_
  refine JA_gone (i := 31) (by kernel_rfl) rfl rfl rfl rfl h6 rfl (jo_callv rfl rfl Try.call54 rfl (lbetween_j _ _)) (fun _ => ⟨hsub_refl, fun _ h => h⟩) fun _ => ?_
  refine JA_gpd (i := 32) rfl (by kernel_rfl) rfl rfl rfl rfl h6 (det_eqlA rfl rfl egt_49 (eqa_49 _ _ _ _)) ?_
  refine JA_pd (i := 33) rfl (by kernel_rfl) rfl rfl (det_pick_t rfl h6 rfl) ?_
  refine JA_pd (i := 34) rfl (by kernel_rfl) rfl rfl (det_move rfl) ?_
  refine JA_is (d0 := 63) true rfl (by decide) (fun h7 => ?_)
  refine JA_gpd (i := 35) rfl (by kernel_rfl) rfl rfl rfl rfl h7 (det_move rfl) ?_
  refine JA_gpd (i := 36) rfl (by kernel_rfl) rfl rfl rfl rfl h7 (det_eql rfl rfl) ?_
  refine JA_pd (i := 37) rfl (by kernel_rfl) rfl rfl (det_pick_t rfl h7 rfl) ?_
  refine JA_pd (i := 38) rfl (by kernel_rfl) rfl rfl (det_move rfl) ?_
  refine JA_is (d0 := 67) true rfl (by decide) (fun h8 => ?_)
  refine JA_gdt (i := 39) rfl (by kernel_rfl) (by kernel_rfl) rfl rfl rfl rfl h8 (det_loadKA rfl Try.isAgg39 Try.sizeOf39 rfl rfl) ?_
  refine JA_gpd (i := 40) rfl (by kernel_rfl) rfl rfl rfl rfl h8 (det_build rfl (bld_39_0_1 _ _)) ?_
  refine JA_gpd (i := 41) rfl (by kernel_rfl) rfl rfl rfl rfl h8 (det_eqlA rfl rfl egt_39 (eqa_39 _ _ _ _)) ?_
  refine JA_pd (i := 42) rfl (by kernel_rfl) rfl rfl (det_pick_t rfl h8 rfl) ?_
  refine JA_pd (i := 43) rfl (by kernel_rfl) rfl rfl (det_move rfl) ?_
  refine JA_is (d0 := 72) true rfl (by decide) (fun h9 => ?_)
  refine JA_gpd (i := 44) rfl (by kernel_rfl) rfl rfl rfl rfl h9 (det_move rfl) ?_
  refine JA_gpd (i := 45) rfl (by kernel_rfl) rfl rfl rfl rfl h9 (det_eql rfl rfl) ?_
  refine JA_pd (i := 46) rfl (by kernel_rfl) rfl rfl (det_pick_t rfl h9 rfl) ?_
  refine JA_pd (i := 47) rfl (by kernel_rfl) rfl rfl (det_assign rfl) ?_
  refine JA_done (by kernel_rfl) ?_
  refine JE_seq ?_
  refine JC_ret ?_
  refine JE_out (.inl rfl) () (results1 Try.results17 (res_tmp rfl)) ?_ (List.Perm.refl _) (fun _ _ => trivial)
  rfl
end Go.Proofs.Ytcfhbnfincpehaa

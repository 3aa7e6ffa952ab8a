/- The walk of PathTurned. -/
import Derived.Test.YtcfhbnfincpehaaX10
namespace Go.Proofs.Ytcfhbnfincpehaa
open Go.RowKit Go.Shelf

set_option maxRecDepth 100000 in
theorem PathTurned_j (l : La) (s : St) (p : Pk) (row : Int) (ha pa : Option Addr) (hc pc : Nat) (w1 : 0 ≤ row) (w2 : row ≤ 255) : Cv Try.prog 10 [.agg #[I l.boards, I l.rows, .slice ha l.hooks.length hc, .slice pa l.patches.length pc], .agg #[I s.b, I s.d], .agg #[I p.boards.lo, I p.boards.hi, I p.dirs.lo, I p.dirs.hi], .int .u8 row] (KLane l ha hc pa pc) (.bool true) := by
  refine Cx_of Try.func10 rfl Try.ntmps10 rfl fun w0 M0 => ?_
  refine JC_seq ?_
  refine JC_region ?_
  refine JL_step rfl rfl rfl (jo_box rfl rfl) fun b4 => ?_
  refine JL_step rfl rfl rfl (jo_box rfl rfl) fun b5 => ?_
  refine JL_step rfl rfl rfl (jo_box rfl rfl) fun b6 => ?_
  refine JL_pd rfl (det_assign rfl) ?_
  refine JL_nil ?_
  refine JE_seq ?_
  refine JC_seq ?_
  refine JC_seq ?_
  refine JC_region ?_
  refine JL_dt rfl (det_loadKA rfl Try.isAgg25 Try.sizeOf25 rfl rfl) ?_
  refine JL_dt rfl (det_loadKA rfl Try.isAgg27 Try.sizeOf27 rfl rfl) ?_
  -- stop: op  2 t29 := (call (Call (value f36) (t27 t28) (25 27)))   <0 1>   208
  refine JL_step rfl rfl rfl (jo_callv rfl rfl Try.call36 rfl (lready_j l s ha pa hc pc)) fun _ => ?_
  refine JL_pd rfl (det_not rfl) ?_
  refine JL_pd rfl (det_move rfl) ?_
  -- stop: guard 4
  refine JL_split (d0 := 31) rfl (fun h1 => ?_) (fun h1 => ?_)
  · refine JL_skip rfl rfl h1 rfl ?_
    refine JL_skip rfl rfl h1 rfl ?_
    refine JL_skip rfl rfl h1 rfl ?_
    refine JL_pd rfl (det_pick_t rfl h1 rfl) ?_
    refine JL_pd rfl (det_move rfl) ?_
    -- stop: guard 9
    refine JL_is (d0 := 36) true rfl (by rfl) (fun k1 => ?_)
    refine JL_skip rfl rfl k1 rfl ?_
    refine JL_skip rfl rfl k1 rfl ?_
    refine JL_skip rfl rfl k1 rfl ?_
    refine JL_skip rfl rfl k1 rfl ?_
    refine JL_pd rfl (det_pick_t rfl k1 rfl) ?_
    refine JL_pd rfl (det_move rfl) ?_
    -- stop: guard 15
    refine JL_is (d0 := 42) true rfl (by rfl) (fun k2 => ?_)
    refine JL_skip rfl rfl k2 rfl ?_
    refine JL_skip rfl rfl k2 rfl ?_
    refine JL_skip rfl rfl k2 rfl ?_
    refine JL_skip rfl rfl k2 rfl ?_
    refine JL_pd rfl (det_pick_t rfl k2 rfl) ?_
    refine JL_pd rfl (det_move rfl) ?_
    -- stop: guard 21
    refine JL_is (d0 := 48) true rfl (by rfl) (fun k3 => ?_)
    refine JL_skip rfl rfl k3 rfl ?_
    refine JL_skip rfl rfl k3 rfl ?_
    refine JL_skip rfl rfl k3 rfl ?_
    refine JL_skip rfl rfl k3 rfl ?_
    refine JL_pd rfl (det_pick_t rfl k3 rfl) ?_
    refine JL_pd rfl (det_move rfl) ?_
    -- stop: guard 27
    refine JL_is (d0 := 54) true rfl (by rfl) (fun k4 => ?_)
    refine JL_skip rfl rfl k4 rfl ?_
    refine JL_skip rfl rfl k4 rfl ?_
    refine JL_skip rfl rfl k4 rfl ?_
    refine JL_skip rfl rfl k4 rfl ?_
    refine JL_pd rfl (det_pick_t rfl k4 rfl) ?_
    refine JL_nil ?_
    refine JE_seq ?_
    -- stop: cond
    refine JC_cond rfl (fun h2 => ?_) (fun h2 => ?_)
    · refine JC_seq ?_
      refine JC_region ?_
      -- stop: op  0 t60 := (call (Call (value f17) () ()))   209
      refine JL_step rfl rfl rfl (jo_callv rfl rfl Try.call17 rfl (lawake_j)) fun _ => ?_
      refine JL_pd rfl (det_assign rfl) ?_
      refine JL_nil ?_
      refine JE_seq ?_
      refine JC_ret ?_
      refine JE_seq_ret ?_
      -- stop: out
      refine JE_out (.inl rfl) () (results1 Try.results10 (res_tmp rfl)) rfl (List.Perm.refl _) (fun _ _ => trivial)
    · cases h2
  · obtain ⟨hthin, he⟩ := ready2 h1
    obtain ⟨V, h0⟩ := valid_start he
    have hth : l.patches.length ≤ 12 ∧ l.hooks.length ≤ 6 := by simpa [thin] using hthin
    have b1 := V.b1
    have b2 := V.b2
    have r1 := V.r1
    have r2 := V.r2
    have sb : 1 ≤ s.b ∧ s.b ≤ l.boards ∧ -5 ≤ s.d ∧ s.d ≤ 5 := by simpa [isStart] using h0
    refine JL_guard rfl rfl h1 ?_
    refine JL_dt rfl (det_loadKA rfl Try.isAgg57 Try.sizeOf57 rfl rfl) ?_
    refine JL_guard rfl rfl h1 ?_
    -- stop: op  6 t33 := (call (Call (value f33) (t32) (57)))   <5 4 4>   208
    refine JL_step rfl rfl rfl (jo_callv rfl rfl Try.call33 rfl (rIsPocket_j p)) fun _ => ?_
    refine JL_guard rfl rfl h1 ?_
    refine JL_pd rfl (det_not rfl) ?_
    refine JL_pd rfl (det_pick_f rfl h1 rfl) ?_
    refine JL_pd rfl (det_move rfl) ?_
    -- stop: guard 9
    by_cases hg : isPocket p = true ∧ ¬ p.boards.lo < -1000 ∧ ¬ 1000 < p.boards.hi ∧ ¬ p.dirs.lo < -1000 ∧ ¬ 1000 < p.dirs.hi
    · skip
      obtain ⟨hp, g1, g2, g3, g4⟩ := hg
      have hp2 : p.boards.lo ≤ p.boards.hi ∧ p.dirs.lo ≤ p.dirs.hi := by simpa [isPocket] using hp
      refine JL_is (d0 := 36) false rfl (by rw [hp]; rfl) (fun k1 => ?_)
      refine JL_guard rfl rfl k1 ?_
      refine JL_pd rfl (det_fieldAddr rfl fo_57_0) ?_
      refine JL_guard rfl rfl k1 ?_
      refine JL_pd rfl (det_fieldAddr rfl fo_53_0) ?_
      refine JL_guard rfl rfl k1 ?_
      refine JL_dt rfl (det_loadK rfl Try.isAgg3 rfl) ?_
      refine JL_guard rfl rfl k1 ?_
      refine JL_pd rfl (det_lss rfl rfl) ?_
      refine JL_pd rfl (det_pick_f rfl k1 rfl) ?_
      refine JL_pd rfl (det_move rfl) ?_
      -- stop: guard 15
      refine JL_is (d0 := 42) false rfl (by simpa using g1) (fun k2 => ?_)
      refine JL_guard rfl rfl k2 ?_
      refine JL_pd rfl (det_fieldAddr rfl fo_57_0) ?_
      refine JL_guard rfl rfl k2 ?_
      refine JL_pd rfl (det_fieldAddr rfl fo_53_1) ?_
      refine JL_guard rfl rfl k2 ?_
      refine JL_dt rfl (det_loadK rfl Try.isAgg3 rfl) ?_
      refine JL_guard rfl rfl k2 ?_
      refine JL_pd rfl (det_gtr rfl rfl) ?_
      refine JL_pd rfl (det_pick_f rfl k2 rfl) ?_
      refine JL_pd rfl (det_move rfl) ?_
      -- stop: guard 21
      refine JL_is (d0 := 48) false rfl (by simpa using g2) (fun k3 => ?_)
      refine JL_guard rfl rfl k3 ?_
      refine JL_pd rfl (det_fieldAddr rfl fo_57_1) ?_
      refine JL_guard rfl rfl k3 ?_
      refine JL_pd rfl (det_fieldAddr rfl fo_53_0) ?_
      refine JL_guard rfl rfl k3 ?_
      refine JL_dt rfl (det_loadK rfl Try.isAgg3 rfl) ?_
      refine JL_guard rfl rfl k3 ?_
      refine JL_pd rfl (det_lss rfl rfl) ?_
      refine JL_pd rfl (det_pick_f rfl k3 rfl) ?_
      refine JL_pd rfl (det_move rfl) ?_
      -- stop: guard 27
      refine JL_is (d0 := 54) false rfl (by simpa using g3) (fun k4 => ?_)
      refine JL_guard rfl rfl k4 ?_
      refine JL_pd rfl (det_fieldAddr rfl fo_57_1) ?_
      refine JL_guard rfl rfl k4 ?_
      refine JL_pd rfl (det_fieldAddr rfl fo_53_1) ?_
      refine JL_guard rfl rfl k4 ?_
      refine JL_dt rfl (det_loadK rfl Try.isAgg3 rfl) ?_
      refine JL_guard rfl rfl k4 ?_
      refine JL_pd rfl (det_gtr rfl rfl) ?_
      refine JL_pd rfl (det_pick_f rfl k4 rfl) ?_
      refine JL_nil ?_
      refine JE_seq ?_
      -- stop: cond
      refine JC_if rfl (fun k5 => ?_) (fun k5 => ?_)
      · exact absurd k5 g4
      · refine JC_skip ?_
        refine JE_seq ?_
        refine JC_seq ?_
        refine JC_region ?_
        refine JL_pd rfl (det_fieldAddr rfl fo_25_0) ?_
        refine JL_dt rfl (det_loadK rfl Try.isAgg3 rfl) ?_
        refine JL_pd rfl (det_add rfl rfl ⟨by omega, by omega⟩) ?_
        refine JL_pd rfl (det_assign rfl) ?_
        refine JL_nil ?_
        refine JE_seq ?_
        refine JC_seq ?_
        refine JC_region ?_
        refine JL_pd rfl (det_fieldAddr rfl fo_25_0) ?_
        refine JL_dt rfl (det_loadK rfl Try.isAgg3 rfl) ?_
        refine JL_pd rfl (det_fieldAddr rfl fo_25_1) ?_
        refine JL_dt rfl (det_loadK rfl Try.isAgg3 rfl) ?_
        refine JL_pd rfl (det_build rfl (bld_25_0_1 _ _)) ?_
        refine JL_step rfl rfl rfl (jo_alloc0 Try.zeroValue25 rfl) fun b10 => ?_
        refine JL_step0 rfl rfl (jo_store rfl rfl rfl (by first | (simp only [splice_norm]; done) | (simp only [splice_norm]; rfl) | rfl) Try.sizeOf25 rfl rfl) fun _ => ?_
        refine JL_nil ?_
        refine JE_seq ?_
        refine JC_seq ?_
        refine JC_seq ?_
        refine JC_region ?_
        refine JL_pd rfl (det_assign rfl) ?_
        refine JL_nil ?_
        refine JE_seq ?_
        refine JC_block ?_
        -- stop: loop
        refine JC_nil 53 2 ?_
        refine JC_loop (γ := Nat × Value) (I := fun q => q.1 ≤ l.hooks.length)
          (st' := fun q => [(11, I q.1), (10, pt b10), (9, I (l.boards + 1)), (6, pt b6), (5, pt b5), (4, pt b4), (3, .int .u8 row)])
          (H' := fun q => [ow q.2 53 2 q.1 (((l.hooks.take q.1).map mirR).flatMap encRg), bx b10 [I l.boards, I l.rows, q.2, .slice none 0 0], bx b6 [I p.boards.lo, I p.boards.hi, I p.dirs.lo, I p.dirs.hi], bx b5 [I s.b, I s.d], bx b4 [I l.boards, I l.rows, .slice ha l.hooks.length hc, .slice pa l.patches.length pc]])
          (R' := fun _ => KLane l ha hc pa pc) (μ := fun q => l.hooks.length - q.1) (0, .slice none 0 0) (by simp) (stsub_cons rfl (stsub_cons rfl (stsub_cons rfl (stsub_cons rfl (stsub_cons rfl (stsub_cons rfl (stsub_cons rfl stsub_nil))))))) (show HSub _ [ow (.slice none 0 0) 53 2 0 [], bx b10 _, bx b6 _, bx b5 _, bx b4 _] from (hsub_cons (hsub_cons (hsub_cons (hsub_cons (hsub_cons hsub_nil)))))) Knows.know ?_
        rintro ⟨i, v⟩ hi K hK
        dsimp only at hi ⊢
        refine JC_seq ?_
        refine JC_seq ?_
        refine JC_region ?_
        refine JL_pd rfl (det_move rfl) ?_
        refine JL_pd rfl (det_fieldAddr rfl fo_25_2) ?_
        refine JL_dt rfl (det_loadK rfl Try.isAgg22 rfl) ?_
        refine JL_pd rfl (det_len rfl Try.runUnderlying22) ?_
        refine JL_pd rfl (det_lss rfl rfl) ?_
        refine JL_nil ?_
        refine JE_seq ?_
        -- stop: cond
        refine JC_if rfl (fun k6 => ?_) (fun k6 => ?_)
        · have hi2 : i < l.hooks.length := by omega
          have hkb := V.hk _ (List.getElem_mem hi2)
          refine JC_skip ?_
          refine JE_seq ?_
          refine JC_seq ?_
          refine JC_block ?_
          refine JC_draw [18, 20] (by kernel_rfl) ?_
          refine JA_pd (i := 0) rfl (by kernel_rfl) rfl rfl (det_fieldAddr rfl fo_25_2) ?_
          refine JA_dt (i := 1) rfl (by kernel_rfl) (by kernel_rfl) rfl rfl (det_loadK rfl Try.isAgg22 rfl) ?_
          refine JA_pd (i := 2) rfl (by kernel_rfl) rfl rfl (det_fieldAddr rfl fo_25_2) ?_
          refine JA_dt (i := 3) rfl (by kernel_rfl) (by kernel_rfl) rfl rfl (det_loadK rfl Try.isAgg22 rfl) ?_
          refine JA_pd (i := 4) rfl (by kernel_rfl) rfl rfl (det_move rfl) ?_
          refine JA_dt (i := 5) rfl (by kernel_rfl) (by kernel_rfl) rfl rfl (det_indexAddr rfl rfl (by first | rfl | omega) (by first | assumption | omega | decide) Try.runUnderlying22 Try.sizeOf53) ?_
          refine JA_pd (i := 6) rfl (by kernel_rfl) rfl rfl (det_fieldAddrE rfl fo_53_1) ?_
          refine JA_dt (i := 7) rfl (by kernel_rfl) (by kernel_rfl) rfl rfl (det_loadEk rfl (by first | assumption | omega | decide) Try.isAgg3 rfl rfl) ?_
          refine JA_pd (i := 8) rfl (by kernel_rfl) rfl rfl (det_neg rfl ⟨by omega, by omega⟩) ?_
          refine JA_pd (i := 9) rfl (by kernel_rfl) rfl rfl (det_fieldAddr rfl fo_25_2) ?_
          refine JA_dt (i := 10) rfl (by kernel_rfl) (by kernel_rfl) rfl rfl (det_loadK rfl Try.isAgg22 rfl) ?_
          refine JA_pd (i := 11) rfl (by kernel_rfl) rfl rfl (det_move rfl) ?_
          refine JA_dt (i := 12) rfl (by kernel_rfl) (by kernel_rfl) rfl rfl (det_indexAddr rfl rfl (by first | rfl | omega) (by first | assumption | omega | decide) Try.runUnderlying22 Try.sizeOf53) ?_
          refine JA_pd (i := 13) rfl (by kernel_rfl) rfl rfl (det_fieldAddrE rfl fo_53_0) ?_
          refine JA_dt (i := 14) rfl (by kernel_rfl) (by kernel_rfl) rfl rfl (det_loadEk rfl (by first | assumption | omega | decide) Try.isAgg3 rfl rfl) ?_
          refine JA_pd (i := 15) rfl (by kernel_rfl) rfl rfl (det_neg rfl ⟨by omega, by omega⟩) ?_
          refine JA_pd (i := 16) rfl (by kernel_rfl) rfl rfl (det_build rfl (bld_53_0_1 _ _)) ?_
          refine JA_one (i := 17) (by kernel_rfl) rfl rfl rfl (jo_buildSlice rfl (bsl_22_1_0 _ _)) (fun _ => ⟨hsub_drop 1 rfl, fun _ h => h⟩) fun b93 => ?_
          refine JA_tail (i := 18) (by kernel_rfl) rfl rfl rfl rfl rfl (jo_append el_22 rfl rfl rfl rfl (by omega)) fun b94 => ?_
          refine JT_pd (i := 19) rfl (by kernel_rfl) rfl rfl (det_fieldAddr rfl fo_25_2) ?_
          refine JT_one (i := 20) (by kernel_rfl) rfl rfl rfl (jo_store rfl rfl rfl (by first | (simp only [splice_norm]; done) | (simp only [splice_norm]; rfl) | rfl) Try.sizeOf22 rfl rfl) fun _ => ?_
          refine JT_done (by kernel_rfl) ?_
          refine JE_block ?_
          refine JE_seq ?_
          refine JC_region ?_
          refine JL_pd rfl (det_move rfl) ?_
          refine JL_pd rfl (det_add rfl rfl ⟨by omega, by omega⟩) ?_
          refine JL_pd rfl (det_assign rfl) ?_
          refine JL_nil ?_
          -- stop: end
          refine JE_round hK (i + 1, .slice (some ⟨b94.1, 0, none⟩) (i + 1) b94.2) (by simp only; omega) (by simp only; omega) ?_ ?_ Knows.know
          · exact stsub_consI rfl (by simp only; omega) (stsub_cons rfl (stsub_cons rfl (stsub_cons rfl (stsub_cons rfl (stsub_cons rfl (stsub_cons rfl stsub_nil))))))
          · exact hsub_ow rfl (by simp only [take_snoc hi2, List.map_append, List.map_cons, List.map_nil, List.flatMap_append, List.flatMap_cons, List.flatMap_nil, encRg, mirR, List.append_nil]) (hsub_cons (hsub_cons (hsub_cons (hsub_cons hsub_nil))))
        · obtain rfl : i = l.hooks.length := by omega
          refine JC_exit ?_
          refine JE_seq_exit ?_
          refine JE_then_exit ?_
          refine JE_block_here ?_
          refine JE_seq ?_
          refine JC_seq ?_
          refine JC_seq ?_
          refine JC_region ?_
          refine JL_pd rfl (det_assign rfl) ?_
          refine JL_nil ?_
          refine JE_seq ?_
          refine JC_block ?_
          -- stop: loop
          refine JC_nil 89 5 ?_
          refine JC_loop (γ := Nat × Value) (I := fun q => q.1 ≤ l.patches.length)
            (st' := fun q => [(12, I q.1), (10, pt b10), (9, I (l.boards + 1)), (6, pt b6), (5, pt b5), (4, pt b4), (3, .int .u8 row)])
            (H' := fun q => [ow q.2 89 5 q.1 (((l.patches.take q.1).map (mirP (l.boards + 1))).flatMap encPa), ow v 53 2 (mirL l).hooks.length ((mirL l).hooks.flatMap encRg), bx b10 [I l.boards, I l.rows, v, q.2], bx b6 [I p.boards.lo, I p.boards.hi, I p.dirs.lo, I p.dirs.hi], bx b5 [I s.b, I s.d], bx b4 [I l.boards, I l.rows, .slice ha l.hooks.length hc, .slice pa l.patches.length pc]])
            (R' := fun _ => KLane l ha hc pa pc) (μ := fun q => l.patches.length - q.1) (0, .slice none 0 0) (by simp) (stsub_cons rfl (stsub_cons rfl (stsub_cons rfl (stsub_cons rfl (stsub_cons rfl (stsub_cons rfl (stsub_cons rfl stsub_nil))))))) (show HSub _ [ow (.slice none 0 0) 89 5 0 [], ow _ _ _ _ _, bx b10 _, bx b6 _, bx b5 _, bx b4 _] from hsub_cons (hsub_ow (by simp [mirL]) (by rw [List.take_length]; rfl) (hsub_cons (hsub_cons (hsub_cons (hsub_cons hsub_nil)))))) Knows.know ?_
          rintro ⟨j, u⟩ hj K2 hK2
          dsimp only at hj ⊢
          refine JC_seq ?_
          refine JC_seq ?_
          refine JC_region ?_
          refine JL_pd rfl (det_move rfl) ?_
          refine JL_pd rfl (det_fieldAddr rfl fo_25_3) ?_
          refine JL_dt rfl (det_loadK rfl Try.isAgg23 rfl) ?_
          refine JL_pd rfl (det_len rfl Try.runUnderlying23) ?_
          refine JL_pd rfl (det_lss rfl rfl) ?_
          refine JL_nil ?_
          refine JE_seq ?_
          -- stop: cond
          refine JC_if rfl (fun k7 => ?_) (fun k7 => ?_)
          · have hj2 : j < l.patches.length := by omega
            have hpb := V.pk _ (List.getElem_mem hj2)
            refine JC_skip ?_
            refine JE_seq ?_
            refine JC_seq ?_
            refine JC_block ?_
            refine JC_seq ?_
            refine JC_region ?_
            refine JL_pd rfl (det_fieldAddr rfl fo_25_3) ?_
            refine JL_dt rfl (det_loadK rfl Try.isAgg23 rfl) ?_
            refine JL_pd rfl (det_move rfl) ?_
            refine JL_dt rfl (det_indexAddr rfl rfl (by first | rfl | omega) (by first | assumption | omega | decide) Try.runUnderlying23 Try.sizeOf89) ?_
            refine JL_dt rfl (det_loadEA rfl (by first | assumption | omega | decide) Try.isAgg89 Try.sizeOf89 rfl rfl rfl) ?_
            refine JL_step rfl rfl rfl (jo_alloc0 Try.zeroValue89 rfl) fun b13 => ?_
            refine JL_step0 rfl rfl (jo_store rfl rfl rfl (by first | (simp only [splice_norm]; done) | (simp only [splice_norm]; rfl) | rfl) Try.sizeOf89 rfl rfl) fun _ => ?_
            refine JL_nil ?_
            refine JE_seq ?_
            refine JC_seq ?_
            refine JC_region ?_
            refine JL_pd rfl (det_move rfl) ?_
            refine JL_pd rfl (det_fieldAddr rfl fo_89_1) ?_
            refine JL_pd rfl (det_fieldAddr rfl fo_53_1) ?_
            refine JL_dt rfl (det_loadK rfl Try.isAgg3 rfl) ?_
            refine JL_pd rfl (det_sub rfl rfl ⟨by omega, by omega⟩) ?_
            refine JL_pd rfl (det_move rfl) ?_
            refine JL_pd rfl (det_fieldAddr rfl fo_89_1) ?_
            refine JL_pd rfl (det_fieldAddr rfl fo_53_0) ?_
            refine JL_dt rfl (det_loadK rfl Try.isAgg3 rfl) ?_
            refine JL_pd rfl (det_sub rfl rfl ⟨by omega, by omega⟩) ?_
            refine JL_pd rfl (det_build rfl (bld_53_0_1 _ _)) ?_
            refine JL_pd rfl (det_fieldAddr rfl fo_89_1) ?_
            refine JL_step0 rfl rfl (jo_store rfl rfl rfl (by first | (simp only [splice_norm]; done) | (simp only [splice_norm]; rfl) | rfl) Try.sizeOf53 rfl rfl) fun _ => ?_
            refine JL_nil ?_
            refine JE_seq ?_
            refine JC_region ?_
            refine JL_pd rfl (det_fieldAddr rfl fo_25_3) ?_
            refine JL_dt rfl (det_loadK rfl Try.isAgg23 rfl) ?_
            refine JL_dt rfl (det_loadKA rfl Try.isAgg89 Try.sizeOf89 rfl rfl) ?_
            refine JL_step rfl rfl rfl (jo_buildSlice rfl (bsl_23_1_0 _ _ _ _ _)) fun b123 => ?_
            refine JL_step rfl rfl rfl (jo_append el_23 rfl rfl rfl rfl (by omega)) fun b124 => ?_
            refine JL_pd rfl (det_fieldAddr rfl fo_25_3) ?_
            refine JL_step0 rfl rfl (jo_store rfl rfl rfl (by first | (simp only [splice_norm]; done) | (simp only [splice_norm]; rfl) | rfl) Try.sizeOf23 rfl rfl) fun _ => ?_
            refine JL_nil ?_
            refine JE_block ?_
            refine JE_seq ?_
            refine JC_region ?_
            refine JL_pd rfl (det_move rfl) ?_
            refine JL_pd rfl (det_add rfl rfl ⟨by omega, by omega⟩) ?_
            refine JL_pd rfl (det_assign rfl) ?_
            refine JL_nil ?_
            -- stop: end
            refine JE_round hK2 (j + 1, .slice (some ⟨b124.1, 0, none⟩) (j + 1) b124.2) (by simp only; omega) (by simp only; omega) ?_ ?_ Knows.know
            · exact stsub_consI rfl (by simp only; omega) (stsub_cons rfl (stsub_cons rfl (stsub_cons rfl (stsub_cons rfl (stsub_cons rfl (stsub_cons rfl stsub_nil))))))
            · exact hsub_ow rfl (by simp only [take_snoc hj2, List.map_append, List.map_cons, List.map_nil, List.flatMap_append, List.flatMap_cons, List.flatMap_nil, encPa, mirP, mirB, List.append_nil]) (hsub_cons (hsub_cons (hsub_cons (hsub_cons (hsub_cons hsub_nil)))))
          · obtain rfl : j = (mirL l).patches.length := by simp [mirL]; omega
            obtain ⟨k, hk⟩ : ∃ k : Nat, row.tmod l.rows = k := ⟨(row.tmod l.rows).toNat, by rw [Int.toNat_of_nonneg (Int.tmod_nonneg _ w1)]⟩
            have hkl : (k : Int) < l.rows := by rw [← hk]; exact Int.tmod_lt_of_pos _ (by omega)
            refine JC_slice (enc := encRg) (v := v) (mirL l).hooks noFp rfl rfl ?_
            rintro av cv rfl
            refine JC_slice (enc := encPa) (v := u) (mirL l).patches noFp (by rw [List.take_of_length_le (by simp [mirL])]; rfl) rfl ?_
            rintro au cu rfl
            have V2 := mir_valid V
            have h02 := mir_start h0
            have he2 : startErr (mirL l) (mirS l s) = 0 := by simp [startErr, valid_fault V2, h02]
            have hp3 : isPocket (mirK l p) = true := decide_eq_true (by simp only [mirK_b, mirK_d, mirB_lo, mirB_hi, mirR_lo, mirR_hi]; omega)
            have heh : aimErr l s p = 0 := by simp [aimErr, he, hp]
            have heh2 : aimErr (mirL l) (mirS l s) (mirK l p) = 0 := by simp [aimErr, he2, hp3]
            have hAl := rowL_len l s k V
            have eV := mir_rowV V h0 k
            have eH := mir_hits V s p
            have eL := mir_rowL V h0 k
            have eN : (rowL (mirL l) (mirS l s) k).length = (rowL l s k).length := by rw [eL]; simp
            refine JC_exit ?_
            refine JE_seq_exit ?_
            refine JE_then_exit ?_
            refine JE_block_here ?_
            refine JE_seq ?_
            refine JC_seq ?_
            refine JC_region ?_
            refine JL_pd rfl (det_move rfl) ?_
            refine JL_pd rfl (det_fieldAddr rfl fo_57_0) ?_
            refine JL_pd rfl (det_fieldAddr rfl fo_53_1) ?_
            refine JL_dt rfl (det_loadK rfl Try.isAgg3 rfl) ?_
            refine JL_pd rfl (det_sub rfl rfl ⟨by omega, by omega⟩) ?_
            refine JL_pd rfl (det_move rfl) ?_
            refine JL_pd rfl (det_fieldAddr rfl fo_57_0) ?_
            refine JL_pd rfl (det_fieldAddr rfl fo_53_0) ?_
            refine JL_dt rfl (det_loadK rfl Try.isAgg3 rfl) ?_
            refine JL_pd rfl (det_sub rfl rfl ⟨by omega, by omega⟩) ?_
            refine JL_pd rfl (det_build rfl (bld_53_0_1 _ _)) ?_
            refine JL_pd rfl (det_fieldAddr rfl fo_57_1) ?_
            refine JL_pd rfl (det_fieldAddr rfl fo_53_1) ?_
            refine JL_dt rfl (det_loadK rfl Try.isAgg3 rfl) ?_
            refine JL_pd rfl (det_neg rfl ⟨by omega, by omega⟩) ?_
            refine JL_pd rfl (det_fieldAddr rfl fo_57_1) ?_
            refine JL_pd rfl (det_fieldAddr rfl fo_53_0) ?_
            refine JL_dt rfl (det_loadK rfl Try.isAgg3 rfl) ?_
            refine JL_pd rfl (det_neg rfl ⟨by omega, by omega⟩) ?_
            refine JL_pd rfl (det_build rfl (bld_53_0_1 _ _)) ?_
            refine JL_pd rfl (det_build rfl (bld_57_0_1 _ _ _ _)) ?_
            refine JL_step rfl rfl rfl (jo_alloc0 Try.zeroValue57 rfl) fun b14 => ?_
            refine JL_step0 rfl rfl (jo_store rfl rfl rfl (by first | (simp only [splice_norm]; done) | (simp only [splice_norm]; rfl) | rfl) Try.sizeOf57 rfl rfl) fun _ => ?_
            refine JL_nil ?_
            refine JE_seq ?_
            refine JC_seq ?_
            refine JC_region ?_
            refine JL_pd rfl (det_move rfl) ?_
            refine JL_pd rfl (det_fieldAddr rfl fo_27_0) ?_
            refine JL_dt rfl (det_loadK rfl Try.isAgg3 rfl) ?_
            refine JL_pd rfl (det_sub rfl rfl ⟨by omega, by omega⟩) ?_
            refine JL_pd rfl (det_fieldAddr rfl fo_27_1) ?_
            refine JL_dt rfl (det_loadK rfl Try.isAgg3 rfl) ?_
            refine JL_pd rfl (det_neg rfl ⟨by omega, by omega⟩) ?_
            refine JL_pd rfl (det_build rfl (bld_27_0_1 _ _)) ?_
            refine JL_step rfl rfl rfl (jo_alloc0 Try.zeroValue27 rfl) fun b15 => ?_
            refine JL_step0 rfl rfl (jo_store rfl rfl rfl (by first | (simp only [splice_norm]; done) | (simp only [splice_norm]; rfl) | rfl) Try.sizeOf27 rfl rfl) fun _ => ?_
            refine JL_nil ?_
            refine JE_seq ?_
            refine JC_seq ?_
            refine JC_draw [] (by kernel_rfl) ?_
            refine JA_dt (i := 0) rfl (by kernel_rfl) (by kernel_rfl) rfl rfl (det_loadKA rfl Try.isAgg25 Try.sizeOf25 rfl rfl) ?_
            refine JA_dt (i := 2) rfl (by kernel_rfl) (by kernel_rfl) rfl rfl (det_loadKA rfl Try.isAgg27 Try.sizeOf27 rfl rfl) ?_
            refine JA_pd (i := 4) rfl (by kernel_rfl) rfl rfl (det_move rfl) ?_
            refine JA_pd (i := 5) rfl (by kernel_rfl) rfl rfl (det_convI rfl Try.runUnderlying5 Try.runUnderlying3 (i64_wrap ⟨by omega, by omega⟩)) ?_
            refine JA_pd (i := 6) rfl (by kernel_rfl) rfl rfl (det_fieldAddr rfl fo_25_1) ?_
            refine JA_dt (i := 7) rfl (by kernel_rfl) (by kernel_rfl) rfl rfl (det_loadK rfl Try.isAgg3 rfl) ?_
            refine JA_pd (i := 8) rfl (by kernel_rfl) rfl rfl (det_rem rfl rfl (by omega)) ?_
            -- stop: op  1 t157 := (call (Call (value f19) (t156) (25)))   <0>   223
            rw [hk]
            refine JA_one (i := 1) (by kernel_rfl) rfl rfl rfl (jo_call rfl rfl Try.call19 rfl (lLane_j l ha pa hc pc (by omega) (by omega))) (fun _ => ⟨hsub_drop 0 rfl, fun _ h => h.2⟩) fun ⟨⟨ha1, hc1⟩, pa1, pc1⟩ => ?_
            -- stop: op  3 t159 := (call (Call (value f20) (t158) (27)))   <2 1>   223
            refine JA_one (i := 3) (by kernel_rfl) rfl rfl rfl (jo_callv rfl rfl Try.call20 rfl (lStart_j s)) (fun _ => ⟨hsub_refl, fun _ h => h⟩) fun _ => ?_
            -- stop: op  9 t165 := (call (Call (value f18) (t157 t159 t164) (37 39 3)))   <1 3 8 3>   223
            refine JA_one (i := 9) (by kernel_rfl) rfl rfl rfl (jo_call rfl rfl Try.call18 rfl (Reach_jo l s k ha1 pa1 hc1 pc1 he (by omega))) (fun _ => ⟨hsub_drop 0 rfl, fun _ h => h.2⟩) fun ⟨ra, rc⟩ => ?_
            refine JA_pd (i := 10) rfl (by kernel_rfl) rfl rfl (det_move rfl) ?_
            refine JA_pd (i := 11) rfl (by kernel_rfl) rfl rfl (det_extract rfl rfl) ?_
            refine JA_pd (i := 12) rfl (by kernel_rfl) rfl rfl (det_extract rfl rfl) ?_
            refine JA_pd (i := 13) rfl (by kernel_rfl) rfl rfl (det_extract rfl rfl) ?_
            refine JA_pd (i := 14) rfl (by kernel_rfl) rfl rfl (det_assign rfl) ?_
            refine JA_pd (i := 15) rfl (by kernel_rfl) rfl rfl (det_assign rfl) ?_
            refine JA_pd (i := 16) rfl (by kernel_rfl) rfl rfl (det_assign rfl) ?_
            refine JA_done (by kernel_rfl) ?_
            refine JE_seq ?_
            refine JC_seq ?_
            refine JC_draw [] (by kernel_rfl) ?_
            refine JA_dt (i := 0) rfl (by kernel_rfl) (by kernel_rfl) rfl rfl (det_loadKA rfl Try.isAgg25 Try.sizeOf25 rfl rfl) ?_
            refine JA_dt (i := 2) rfl (by kernel_rfl) (by kernel_rfl) rfl rfl (det_loadKA rfl Try.isAgg27 Try.sizeOf27 rfl rfl) ?_
            refine JA_pd (i := 4) rfl (by kernel_rfl) rfl rfl (det_move rfl) ?_
            refine JA_pd (i := 5) rfl (by kernel_rfl) rfl rfl (det_convI rfl Try.runUnderlying5 Try.runUnderlying3 (i64_wrap ⟨by omega, by omega⟩)) ?_
            refine JA_pd (i := 6) rfl (by kernel_rfl) rfl rfl (det_fieldAddr rfl fo_25_1) ?_
            refine JA_dt (i := 7) rfl (by kernel_rfl) (by kernel_rfl) rfl rfl (det_loadK rfl Try.isAgg3 rfl) ?_
            refine JA_pd (i := 8) rfl (by kernel_rfl) rfl rfl (det_rem rfl rfl (by omega)) ?_
            -- stop: op  1 t171 := (call (Call (value f19) (t170) (25)))   <0>   224
            refine JA_one (i := 1) (by kernel_rfl) rfl rfl rfl (jo_call rfl rfl Try.call19 rfl (lLane_j (mirL l) av au cv cu (by simp [mirL]; omega) (by simp [mirL]; omega))) (fun _ => ⟨hsub_drop 0 rfl, fun _ h => h.2⟩) fun ⟨⟨ha2, hc2⟩, pa2, pc2⟩ => ?_
            -- stop: op  3 t173 := (call (Call (value f20) (t172) (27)))   <2 1>   224
            refine JA_one (i := 3) (by kernel_rfl) rfl rfl rfl (jo_callv rfl rfl Try.call20 rfl (lStart_j (mirS l s))) (fun _ => ⟨hsub_refl, fun _ h => h⟩) fun _ => ?_
            -- stop: op  9 t179 := (call (Call (value f18) (t171 t173 t178) (37 39 3)))   <1 3 8 3>   224
            rw [hk]
            refine JA_one (i := 9) (by kernel_rfl) rfl rfl rfl (jo_call rfl rfl Try.call18 rfl (Reach_jo (mirL l) (mirS l s) k ha2 pa2 hc2 pc2 he2 hkl)) (fun _ => ⟨hsub_drop 0 rfl, fun _ h => h.2⟩) fun ⟨rb, rd⟩ => ?_
            refine JA_pd (i := 10) rfl (by kernel_rfl) rfl rfl (det_move rfl) ?_
            refine JA_pd (i := 11) rfl (by kernel_rfl) rfl rfl (det_extract rfl rfl) ?_
            refine JA_pd (i := 12) rfl (by kernel_rfl) rfl rfl (det_extract rfl rfl) ?_
            refine JA_pd (i := 13) rfl (by kernel_rfl) rfl rfl (det_extract rfl rfl) ?_
            refine JA_pd (i := 14) rfl (by kernel_rfl) rfl rfl (det_assign rfl) ?_
            refine JA_pd (i := 15) rfl (by kernel_rfl) rfl rfl (det_assign rfl) ?_
            refine JA_pd (i := 16) rfl (by kernel_rfl) rfl rfl (det_assign rfl) ?_
            refine JA_done (by kernel_rfl) ?_
            refine JE_seq ?_
            refine JC_seq ?_
            refine JC_draw [] (by kernel_rfl) ?_
            refine JA_dt (i := 0) rfl (by kernel_rfl) (by kernel_rfl) rfl rfl (det_loadKA rfl Try.isAgg25 Try.sizeOf25 rfl rfl) ?_
            refine JA_dt (i := 2) rfl (by kernel_rfl) (by kernel_rfl) rfl rfl (det_loadKA rfl Try.isAgg27 Try.sizeOf27 rfl rfl) ?_
            refine JA_dt (i := 4) rfl (by kernel_rfl) (by kernel_rfl) rfl rfl (det_loadKA rfl Try.isAgg57 Try.sizeOf57 rfl rfl) ?_
            -- stop: op  1 t185 := (call (Call (value f19) (t184) (25)))   <0>   225
            refine JA_one (i := 1) (by kernel_rfl) rfl rfl rfl (jo_call rfl rfl Try.call19 rfl (lLane_j l ha pa hc pc (by omega) (by omega))) (fun _ => ⟨hsub_drop 0 rfl, fun _ h => h.2⟩) fun ⟨⟨ha3, hc3⟩, pa3, pc3⟩ => ?_
            -- stop: op  3 t187 := (call (Call (value f20) (t186) (27)))   <2 1>   225
            refine JA_one (i := 3) (by kernel_rfl) rfl rfl rfl (jo_callv rfl rfl Try.call20 rfl (lStart_j s)) (fun _ => ⟨hsub_refl, fun _ h => h⟩) fun _ => ?_
            -- stop: op  5 t189 := (call (Call (value f30) (t188) (57)))   <4 3>   225
            refine JA_one (i := 5) (by kernel_rfl) rfl rfl rfl (jo_callv rfl rfl Try.call30 rfl (lPocket_j p)) (fun _ => ⟨hsub_refl, fun _ h => h⟩) fun _ => ?_
            -- stop: op  6 t190 := (call (Call (value f45) (t185 t187 t189) (37 39 62)))   <1 3 5 5>   225
            refine JA_one (i := 6) (by kernel_rfl) rfl rfl rfl (jo_callv rfl rfl Try.call45 rfl (Hits_jo l s p ha3 pa3 hc3 pc3 heh)) (fun _ => ⟨hsub_refl, fun _ h => h⟩) fun _ => ?_
            refine JA_pd (i := 7) rfl (by kernel_rfl) rfl rfl (det_move rfl) ?_
            refine JA_pd (i := 8) rfl (by kernel_rfl) rfl rfl (det_extract rfl rfl) ?_
            refine JA_pd (i := 9) rfl (by kernel_rfl) rfl rfl (det_extract rfl rfl) ?_
            refine JA_pd (i := 10) rfl (by kernel_rfl) rfl rfl (det_assign rfl) ?_
            refine JA_pd (i := 11) rfl (by kernel_rfl) rfl rfl (det_assign rfl) ?_
            refine JA_done (by kernel_rfl) ?_
            refine JE_seq ?_
            refine JC_seq ?_
            refine JC_draw [] (by kernel_rfl) ?_
            refine JA_dt (i := 0) rfl (by kernel_rfl) (by kernel_rfl) rfl rfl (det_loadKA rfl Try.isAgg25 Try.sizeOf25 rfl rfl) ?_
            refine JA_dt (i := 2) rfl (by kernel_rfl) (by kernel_rfl) rfl rfl (det_loadKA rfl Try.isAgg27 Try.sizeOf27 rfl rfl) ?_
            refine JA_dt (i := 4) rfl (by kernel_rfl) (by kernel_rfl) rfl rfl (det_loadKA rfl Try.isAgg57 Try.sizeOf57 rfl rfl) ?_
            -- stop: op  1 t195 := (call (Call (value f19) (t194) (25)))   <0>   226
            refine JA_one (i := 1) (by kernel_rfl) rfl rfl rfl (jo_call rfl rfl Try.call19 rfl (lLane_j (mirL l) av au cv cu (by simp [mirL]; omega) (by simp [mirL]; omega))) (fun _ => ⟨hsub_drop 0 rfl, fun _ h => h.2⟩) fun ⟨⟨ha4, hc4⟩, pa4, pc4⟩ => ?_
            -- stop: op  3 t197 := (call (Call (value f20) (t196) (27)))   <2 1>   226
            refine JA_one (i := 3) (by kernel_rfl) rfl rfl rfl (jo_callv rfl rfl Try.call20 rfl (lStart_j (mirS l s))) (fun _ => ⟨hsub_refl, fun _ h => h⟩) fun _ => ?_
            -- stop: op  5 t199 := (call (Call (value f30) (t198) (57)))   <4 3>   226
            refine JA_one (i := 5) (by kernel_rfl) rfl rfl rfl (jo_callv rfl rfl Try.call30 rfl (lPocket_j (mirK l p))) (fun _ => ⟨hsub_refl, fun _ h => h⟩) fun _ => ?_
            -- stop: op  6 t200 := (call (Call (value f45) (t195 t197 t199) (37 39 62)))   <1 3 5 5>   226
            refine JA_one (i := 6) (by kernel_rfl) rfl rfl rfl (jo_callv rfl rfl Try.call45 rfl (Hits_jo (mirL l) (mirS l s) (mirK l p) ha4 pa4 hc4 pc4 heh2)) (fun _ => ⟨hsub_refl, fun _ h => h⟩) fun _ => ?_
            refine JA_pd (i := 7) rfl (by kernel_rfl) rfl rfl (det_move rfl) ?_
            refine JA_pd (i := 8) rfl (by kernel_rfl) rfl rfl (det_extract rfl rfl) ?_
            refine JA_pd (i := 9) rfl (by kernel_rfl) rfl rfl (det_extract rfl rfl) ?_
            refine JA_pd (i := 10) rfl (by kernel_rfl) rfl rfl (det_assign rfl) ?_
            refine JA_pd (i := 11) rfl (by kernel_rfl) rfl rfl (det_assign rfl) ?_
            refine JA_done (by kernel_rfl) ?_
            refine JE_seq ?_
            refine JC_seq ?_
            refine JC_seq ?_
            refine JC_region ?_
            refine JL_pd rfl (det_move rfl) ?_
            refine JL_pd rfl (det_neq rfl rfl) ?_
            refine JL_pd rfl (det_move rfl) ?_
            -- stop: guard 2
            refine JL_is (d0 := 205) false rfl (by rfl) (fun m1 => ?_)
            refine JL_guard rfl rfl m1 ?_
            refine JL_pd rfl (det_move rfl) ?_
            refine JL_guard rfl rfl m1 ?_
            refine JL_pd rfl (det_neq rfl rfl) ?_
            refine JL_pd rfl (det_pick_f rfl m1 rfl) ?_
            refine JL_pd rfl (det_move rfl) ?_
            -- stop: guard 6
            refine JL_is (d0 := 209) false rfl (by rfl) (fun m2 => ?_)
            refine JL_guard rfl rfl m2 ?_
            refine JL_pd rfl (det_move rfl) ?_
            refine JL_guard rfl rfl m2 ?_
            refine JL_pd rfl (det_neq rfl rfl) ?_
            refine JL_pd rfl (det_pick_f rfl m2 rfl) ?_
            refine JL_pd rfl (det_move rfl) ?_
            -- stop: guard 10
            refine JL_is (d0 := 213) false rfl (by rfl) (fun m3 => ?_)
            refine JL_guard rfl rfl m3 ?_
            refine JL_pd rfl (det_move rfl) ?_
            refine JL_guard rfl rfl m3 ?_
            refine JL_pd rfl (det_neq rfl rfl) ?_
            refine JL_pd rfl (det_pick_f rfl m3 rfl) ?_
            refine JL_pd rfl (det_move rfl) ?_
            -- stop: guard 14
            refine JL_is (d0 := 217) false rfl (by rfl) (fun m4 => ?_)
            refine JL_guard rfl rfl m4 ?_
            refine JL_pd rfl (det_move rfl) ?_
            refine JL_guard rfl rfl m4 ?_
            refine JL_pd rfl (det_move rfl) ?_
            refine JL_guard rfl rfl m4 ?_
            refine JL_pd rfl (det_neq rfl rfl) ?_
            refine JL_pd rfl (det_pick_f rfl m4 rfl) ?_
            refine JL_pd rfl (det_move rfl) ?_
            -- stop: guard 19
            refine JL_is (d0 := 222) false rfl (by rw [eV]; simp) (fun m5 => ?_)
            refine JL_guard rfl rfl m5 ?_
            refine JL_pd rfl (det_move rfl) ?_
            refine JL_guard rfl rfl m5 ?_
            refine JL_pd rfl (det_move rfl) ?_
            refine JL_guard rfl rfl m5 ?_
            refine JL_pd rfl (det_neq rfl rfl) ?_
            refine JL_pd rfl (det_pick_f rfl m5 rfl) ?_
            refine JL_pd rfl (det_move rfl) ?_
            -- stop: guard 24
            refine JL_is (d0 := 227) false rfl (by rw [eH]; simp) (fun m6 => ?_)
            refine JL_guard rfl rfl m6 ?_
            refine JL_pd rfl (det_move rfl) ?_
            refine JL_guard rfl rfl m6 ?_
            refine JL_pd rfl (det_len rfl Try.runUnderlying30) ?_
            refine JL_guard rfl rfl m6 ?_
            refine JL_pd rfl (det_move rfl) ?_
            refine JL_guard rfl rfl m6 ?_
            refine JL_pd rfl (det_len rfl Try.runUnderlying30) ?_
            refine JL_guard rfl rfl m6 ?_
            refine JL_pd rfl (det_neq rfl rfl) ?_
            refine JL_pd rfl (det_pick_f rfl m6 rfl) ?_
            refine JL_nil ?_
            refine JE_seq ?_
            -- stop: cond
            refine JC_ifn rfl (fun m7 => ?_) (fun m7 => ?_)
            · exact absurd (by rw [eN]) m7
            · refine JC_skip ?_
              refine JE_seq ?_
              refine JC_seq ?_
              refine JC_seq ?_
              refine JC_region ?_
              refine JL_pd rfl (det_assign rfl) ?_
              refine JL_nil ?_
              refine JE_seq ?_
              refine JC_block ?_
              -- stop: loop
              refine JC_loop (γ := Nat) (I := fun i => i ≤ (rowL l s k).length) (st' := fun i => [(26, I i), (19, .slice rb (rowL (mirL l) (mirS l s) k).length rd), (16, .slice ra (rowL l s k).length rc), (9, I (l.boards + 1))]) (H' := fun _ => [])
                (R' := fun _ => KAnd (KSl rb (rowL (mirL l) (mirS l s) k).length rd encSt (rowL (mirL l) (mirS l s) k)) (KSl ra (rowL l s k).length rc encSt (rowL l s k))) (μ := fun i => (rowL l s k).length - i) 0 (by omega) (stsub_cons rfl (stsub_cons rfl (stsub_cons rfl (stsub_cons rfl stsub_nil)))) hsub_nil Knows.know ?_
              intro i hi K3 hK3
              refine JC_seq ?_
              refine JC_seq ?_
              refine JC_region ?_
              refine JL_pd rfl (det_move rfl) ?_
              refine JL_pd rfl (det_move rfl) ?_
              refine JL_pd rfl (det_len rfl Try.runUnderlying30) ?_
              refine JL_pd rfl (det_lss rfl rfl) ?_
              refine JL_nil ?_
              refine JE_seq ?_
              -- stop: cond
              refine JC_if rfl (fun k8 => ?_) (fun k8 => ?_)
              · have hi2 : i < (rowL l s k).length := by omega
                have hj2 : (rowL (mirL l) (mirS l s) k).length - 1 - i < (rowL (mirL l) (mirS l s) k).length := by omega
                have hel : (rowL (mirL l) (mirS l s) k)[(rowL (mirL l) (mirS l s) k).length - 1 - i] = mirS l (rowL l s k)[i] := by
                  have : (rowL (mirL l) (mirS l s) k)[(rowL (mirL l) (mirS l s) k).length - 1 - i]? = some (mirS l (rowL l s k)[i]) := by
                    rw [eN, eL, List.getElem?_reverse (by simp; omega), List.length_map, show (rowL l s k).length - 1 - ((rowL l s k).length - 1 - i) = i by omega, List.getElem?_map, List.getElem?_eq_getElem hi2]; rfl
                  exact (List.getElem?_eq_some_iff.1 this).2
                have hm := (mem_rowL V h0).1 (List.getElem_mem hi2)
                have hon : 1 ≤ (rowL l s k)[i].b ∧ (rowL l s k)[i].b ≤ l.boards := by simpa [onL] using Rch.on (onL_start h0) hm
                have hdd := Rch.d ⟨sb.2.2.1, sb.2.2.2⟩ hm
                refine JC_skip ?_
                refine JE_seq ?_
                refine JC_seq ?_
                refine JC_block ?_
                refine JC_seq ?_
                refine JC_draw [] (by kernel_rfl) ?_
                refine JA_pd (i := 0) rfl (by kernel_rfl) rfl rfl (det_move rfl) ?_
                refine JA_pd (i := 1) rfl (by kernel_rfl) rfl rfl (det_move rfl) ?_
                refine JA_pd (i := 2) rfl (by kernel_rfl) rfl rfl (det_len rfl Try.runUnderlying30) ?_
                refine JA_pd (i := 3) rfl (by kernel_rfl) rfl rfl (det_sub rfl rfl ⟨by omega, by omega⟩) ?_
                refine JA_pd (i := 4) rfl (by kernel_rfl) rfl rfl (det_move rfl) ?_
                refine JA_pd (i := 5) rfl (by kernel_rfl) rfl rfl (det_sub rfl rfl ⟨by omega, by omega⟩) ?_
                -- stop: op  6 t246 := (indexAddr 30 t240 t245)   <0 5>   231
                refine JA_dt (i := 6) rfl (by kernel_rfl) (by kernel_rfl) rfl rfl (det_indexAddr (i := (rowL (mirL l) (mirS l s) k).length - 1 - i) rfl rfl (by omega) (by omega) Try.runUnderlying30 Try.sizeOf39) ?_
                refine JA_dt (i := 7) rfl (by kernel_rfl) (by kernel_rfl) rfl rfl (det_loadEA rfl (by first | assumption | omega | decide) Try.isAgg39 Try.sizeOf39 rfl rfl rfl) ?_
                refine JA_pd (i := 8) rfl (by kernel_rfl) rfl rfl (det_move rfl) ?_
                refine JA_pd (i := 9) rfl (by kernel_rfl) rfl rfl (det_move rfl) ?_
                refine JA_pd (i := 10) rfl (by kernel_rfl) rfl rfl (det_move rfl) ?_
                refine JA_dt (i := 11) rfl (by kernel_rfl) (by kernel_rfl) rfl rfl (det_indexAddr rfl rfl (by first | rfl | omega) (by first | assumption | omega | decide) Try.runUnderlying30 Try.sizeOf39) ?_
                refine JA_pd (i := 12) rfl (by kernel_rfl) rfl rfl (det_fieldAddrE rfl fo_39_0) ?_
                refine JA_dt (i := 13) rfl (by kernel_rfl) (by kernel_rfl) rfl rfl (det_loadEk rfl (by first | assumption | omega | decide) Try.isAgg3 rfl rfl) ?_
                refine JA_pd (i := 14) rfl (by kernel_rfl) rfl rfl (det_sub rfl rfl ⟨by omega, by omega⟩) ?_
                refine JA_pd (i := 15) rfl (by kernel_rfl) rfl rfl (det_move rfl) ?_
                refine JA_pd (i := 16) rfl (by kernel_rfl) rfl rfl (det_move rfl) ?_
                refine JA_dt (i := 17) rfl (by kernel_rfl) (by kernel_rfl) rfl rfl (det_indexAddr rfl rfl (by first | rfl | omega) (by first | assumption | omega | decide) Try.runUnderlying30 Try.sizeOf39) ?_
                refine JA_pd (i := 18) rfl (by kernel_rfl) rfl rfl (det_fieldAddrE rfl fo_39_1) ?_
                refine JA_dt (i := 19) rfl (by kernel_rfl) (by kernel_rfl) rfl rfl (det_loadEk rfl (by first | assumption | omega | decide) Try.isAgg3 rfl rfl) ?_
                refine JA_pd (i := 20) rfl (by kernel_rfl) rfl rfl (det_neg rfl ⟨by omega, by omega⟩) ?_
                refine JA_pd (i := 21) rfl (by kernel_rfl) rfl rfl (det_build rfl (bld_39_0_1 _ _)) ?_
                refine JA_pd (i := 22) rfl (by kernel_rfl) rfl rfl (det_neqA rfl rfl egt_39 (eqa_39 _ _ _ _)) ?_
                refine JA_done (by kernel_rfl) ?_
                refine JE_seq ?_
                -- stop: cond
                refine JC_ifn rfl (fun k9 => ?_) (fun k9 => ?_)
                · exact absurd (by rw [hel]; exact ⟨rfl, rfl⟩) k9
                · refine JC_skip ?_
                  refine JE_block ?_
                  refine JE_seq ?_
                  refine JC_region ?_
                  refine JL_pd rfl (det_move rfl) ?_
                  refine JL_pd rfl (det_add rfl rfl ⟨by omega, by omega⟩) ?_
                  refine JL_pd rfl (det_assign rfl) ?_
                  refine JL_nil ?_
                  -- stop: end
                  refine JE_round hK3 (i + 1) (by omega) (by omega) (stsub_consI rfl (by omega) (stsub_cons rfl (stsub_cons rfl (stsub_cons rfl stsub_nil)))) hsub_nil Knows.know
              · refine JC_exit ?_
                refine JE_seq_exit ?_
                refine JE_then_exit ?_
                refine JE_block_here ?_
                refine JE_seq ?_
                refine JC_seq ?_
                refine JC_region ?_
                -- stop: op  0 t263 := (call (Call (value f17) () ()))   235
                refine JL_step rfl rfl rfl (jo_callv rfl rfl Try.call17 rfl (lawake_j)) fun _ => ?_
                refine JL_pd rfl (det_assign rfl) ?_
                refine JL_nil ?_
                refine JE_seq ?_
                refine JC_ret ?_
                -- stop: out
                refine JE_out (.inl rfl) () (results1 Try.results10 (res_tmp rfl)) rfl (List.Perm.refl _) (fun _ _ => trivial)
    · skip
      refine JL_split (d0 := 36) rfl (fun k1 => ?_) (fun k1 => ?_)
      · refine JL_skip rfl rfl k1 rfl ?_
        refine JL_skip rfl rfl k1 rfl ?_
        refine JL_skip rfl rfl k1 rfl ?_
        refine JL_skip rfl rfl k1 rfl ?_
        refine JL_pd rfl (det_pick_t rfl k1 rfl) ?_
        refine JL_pd rfl (det_move rfl) ?_
        -- stop: guard 15
        refine JL_is (d0 := 42) true rfl (by rfl) (fun k2 => ?_)
        refine JL_skip rfl rfl k2 rfl ?_
        refine JL_skip rfl rfl k2 rfl ?_
        refine JL_skip rfl rfl k2 rfl ?_
        refine JL_skip rfl rfl k2 rfl ?_
        refine JL_pd rfl (det_pick_t rfl k2 rfl) ?_
        refine JL_pd rfl (det_move rfl) ?_
        -- stop: guard 21
        refine JL_is (d0 := 48) true rfl (by rfl) (fun k3 => ?_)
        refine JL_skip rfl rfl k3 rfl ?_
        refine JL_skip rfl rfl k3 rfl ?_
        refine JL_skip rfl rfl k3 rfl ?_
        refine JL_skip rfl rfl k3 rfl ?_
        refine JL_pd rfl (det_pick_t rfl k3 rfl) ?_
        refine JL_pd rfl (det_move rfl) ?_
        -- stop: guard 27
        refine JL_is (d0 := 54) true rfl (by rfl) (fun k4 => ?_)
        refine JL_skip rfl rfl k4 rfl ?_
        refine JL_skip rfl rfl k4 rfl ?_
        refine JL_skip rfl rfl k4 rfl ?_
        refine JL_skip rfl rfl k4 rfl ?_
        refine JL_pd rfl (det_pick_t rfl k4 rfl) ?_
        refine JL_nil ?_
        refine JE_seq ?_
        -- stop: cond
        refine JC_cond rfl (fun h2 => ?_) (fun h2 => ?_)
        · refine JC_seq ?_
          refine JC_region ?_
          -- stop: op  0 t60 := (call (Call (value f17) () ()))   209
          refine JL_step rfl rfl rfl (jo_callv rfl rfl Try.call17 rfl (lawake_j)) fun _ => ?_
          refine JL_pd rfl (det_assign rfl) ?_
          refine JL_nil ?_
          refine JE_seq ?_
          refine JC_ret ?_
          refine JE_seq_ret ?_
          -- stop: out
          refine JE_out (.inl rfl) () (results1 Try.results10 (res_tmp rfl)) rfl (List.Perm.refl _) (fun _ _ => trivial)
        · cases h2
      · refine JL_guard rfl rfl k1 ?_
        refine JL_pd rfl (det_fieldAddr rfl fo_57_0) ?_
        refine JL_guard rfl rfl k1 ?_
        refine JL_pd rfl (det_fieldAddr rfl fo_53_0) ?_
        refine JL_guard rfl rfl k1 ?_
        refine JL_dt rfl (det_loadK rfl Try.isAgg3 rfl) ?_
        refine JL_guard rfl rfl k1 ?_
        refine JL_pd rfl (det_lss rfl rfl) ?_
        refine JL_pd rfl (det_pick_f rfl k1 rfl) ?_
        refine JL_pd rfl (det_move rfl) ?_
        -- stop: guard 15
        refine JL_split (d0 := 42) rfl (fun k2 => ?_) (fun k2 => ?_)
        · refine JL_skip rfl rfl k2 rfl ?_
          refine JL_skip rfl rfl k2 rfl ?_
          refine JL_skip rfl rfl k2 rfl ?_
          refine JL_skip rfl rfl k2 rfl ?_
          refine JL_pd rfl (det_pick_t rfl k2 rfl) ?_
          refine JL_pd rfl (det_move rfl) ?_
          -- stop: guard 21
          refine JL_is (d0 := 48) true rfl (by rfl) (fun k3 => ?_)
          refine JL_skip rfl rfl k3 rfl ?_
          refine JL_skip rfl rfl k3 rfl ?_
          refine JL_skip rfl rfl k3 rfl ?_
          refine JL_skip rfl rfl k3 rfl ?_
          refine JL_pd rfl (det_pick_t rfl k3 rfl) ?_
          refine JL_pd rfl (det_move rfl) ?_
          -- stop: guard 27
          refine JL_is (d0 := 54) true rfl (by rfl) (fun k4 => ?_)
          refine JL_skip rfl rfl k4 rfl ?_
          refine JL_skip rfl rfl k4 rfl ?_
          refine JL_skip rfl rfl k4 rfl ?_
          refine JL_skip rfl rfl k4 rfl ?_
          refine JL_pd rfl (det_pick_t rfl k4 rfl) ?_
          refine JL_nil ?_
          refine JE_seq ?_
          -- stop: cond
          refine JC_cond rfl (fun h2 => ?_) (fun h2 => ?_)
          · refine JC_seq ?_
            refine JC_region ?_
            -- stop: op  0 t60 := (call (Call (value f17) () ()))   209
            refine JL_step rfl rfl rfl (jo_callv rfl rfl Try.call17 rfl (lawake_j)) fun _ => ?_
            refine JL_pd rfl (det_assign rfl) ?_
            refine JL_nil ?_
            refine JE_seq ?_
            refine JC_ret ?_
            refine JE_seq_ret ?_
            -- stop: out
            refine JE_out (.inl rfl) () (results1 Try.results10 (res_tmp rfl)) rfl (List.Perm.refl _) (fun _ _ => trivial)
          · cases h2
        · refine JL_guard rfl rfl k2 ?_
          refine JL_pd rfl (det_fieldAddr rfl fo_57_0) ?_
          refine JL_guard rfl rfl k2 ?_
          refine JL_pd rfl (det_fieldAddr rfl fo_53_1) ?_
          refine JL_guard rfl rfl k2 ?_
          refine JL_dt rfl (det_loadK rfl Try.isAgg3 rfl) ?_
          refine JL_guard rfl rfl k2 ?_
          refine JL_pd rfl (det_gtr rfl rfl) ?_
          refine JL_pd rfl (det_pick_f rfl k2 rfl) ?_
          refine JL_pd rfl (det_move rfl) ?_
          -- stop: guard 21
          refine JL_split (d0 := 48) rfl (fun k3 => ?_) (fun k3 => ?_)
          · refine JL_skip rfl rfl k3 rfl ?_
            refine JL_skip rfl rfl k3 rfl ?_
            refine JL_skip rfl rfl k3 rfl ?_
            refine JL_skip rfl rfl k3 rfl ?_
            refine JL_pd rfl (det_pick_t rfl k3 rfl) ?_
            refine JL_pd rfl (det_move rfl) ?_
            -- stop: guard 27
            refine JL_is (d0 := 54) true rfl (by rfl) (fun k4 => ?_)
            refine JL_skip rfl rfl k4 rfl ?_
            refine JL_skip rfl rfl k4 rfl ?_
            refine JL_skip rfl rfl k4 rfl ?_
            refine JL_skip rfl rfl k4 rfl ?_
            refine JL_pd rfl (det_pick_t rfl k4 rfl) ?_
            refine JL_nil ?_
            refine JE_seq ?_
            -- stop: cond
            refine JC_cond rfl (fun h2 => ?_) (fun h2 => ?_)
            · refine JC_seq ?_
              refine JC_region ?_
              -- stop: op  0 t60 := (call (Call (value f17) () ()))   209
              refine JL_step rfl rfl rfl (jo_callv rfl rfl Try.call17 rfl (lawake_j)) fun _ => ?_
              refine JL_pd rfl (det_assign rfl) ?_
              refine JL_nil ?_
              refine JE_seq ?_
              refine JC_ret ?_
              refine JE_seq_ret ?_
              -- stop: out
              refine JE_out (.inl rfl) () (results1 Try.results10 (res_tmp rfl)) rfl (List.Perm.refl _) (fun _ _ => trivial)
            · cases h2
          · refine JL_guard rfl rfl k3 ?_
            refine JL_pd rfl (det_fieldAddr rfl fo_57_1) ?_
            refine JL_guard rfl rfl k3 ?_
            refine JL_pd rfl (det_fieldAddr rfl fo_53_0) ?_
            refine JL_guard rfl rfl k3 ?_
            refine JL_dt rfl (det_loadK rfl Try.isAgg3 rfl) ?_
            refine JL_guard rfl rfl k3 ?_
            refine JL_pd rfl (det_lss rfl rfl) ?_
            refine JL_pd rfl (det_pick_f rfl k3 rfl) ?_
            refine JL_pd rfl (det_move rfl) ?_
            -- stop: guard 27
            refine JL_split (d0 := 54) rfl (fun k4 => ?_) (fun k4 => ?_)
            · refine JL_skip rfl rfl k4 rfl ?_
              refine JL_skip rfl rfl k4 rfl ?_
              refine JL_skip rfl rfl k4 rfl ?_
              refine JL_skip rfl rfl k4 rfl ?_
              refine JL_pd rfl (det_pick_t rfl k4 rfl) ?_
              refine JL_nil ?_
              refine JE_seq ?_
              -- stop: cond
              refine JC_cond rfl (fun h2 => ?_) (fun h2 => ?_)
              · refine JC_seq ?_
                refine JC_region ?_
                -- stop: op  0 t60 := (call (Call (value f17) () ()))   209
                refine JL_step rfl rfl rfl (jo_callv rfl rfl Try.call17 rfl (lawake_j)) fun _ => ?_
                refine JL_pd rfl (det_assign rfl) ?_
                refine JL_nil ?_
                refine JE_seq ?_
                refine JC_ret ?_
                refine JE_seq_ret ?_
                -- stop: out
                refine JE_out (.inl rfl) () (results1 Try.results10 (res_tmp rfl)) rfl (List.Perm.refl _) (fun _ _ => trivial)
              · cases h2
            · refine JL_guard rfl rfl k4 ?_
              refine JL_pd rfl (det_fieldAddr rfl fo_57_1) ?_
              refine JL_guard rfl rfl k4 ?_
              refine JL_pd rfl (det_fieldAddr rfl fo_53_1) ?_
              refine JL_guard rfl rfl k4 ?_
              refine JL_dt rfl (det_loadK rfl Try.isAgg3 rfl) ?_
              refine JL_guard rfl rfl k4 ?_
              refine JL_pd rfl (det_gtr rfl rfl) ?_
              refine JL_pd rfl (det_pick_f rfl k4 rfl) ?_
              refine JL_nil ?_
              refine JE_seq ?_
              -- stop: cond
              refine JC_if rfl (fun k5 => ?_) (fun k5 => ?_)
              · refine JC_seq ?_
                refine JC_region ?_
                -- stop: op  0 t60 := (call (Call (value f17) () ()))   209
                refine JL_step rfl rfl rfl (jo_callv rfl rfl Try.call17 rfl (lawake_j)) fun _ => ?_
                refine JL_pd rfl (det_assign rfl) ?_
                refine JL_nil ?_
                refine JE_seq ?_
                refine JC_ret ?_
                refine JE_seq_ret ?_
                -- stop: out
                refine JE_out (.inl rfl) () (results1 Try.results10 (res_tmp rfl)) rfl (List.Perm.refl _) (fun _ _ => trivial)
              · exact absurd ⟨by simpa using k1, of_decide_eq_false k2, of_decide_eq_false k3, of_decide_eq_false k4, k5⟩ hg
end Go.Proofs.Ytcfhbnfincpehaa

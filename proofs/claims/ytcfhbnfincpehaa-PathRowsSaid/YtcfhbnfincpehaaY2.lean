/- The walk of PathRows. -/
import Derived.Test.YtcfhbnfincpehaaY1
namespace Go.Proofs.Ytcfhbnfincpehaa
open Go.RowKit Go.Shelf

set_option maxRecDepth 100000 in
theorem PathRows_j (l : La) (s : St) (row : Int) (ha pa : Option Addr) (hc pc : Nat) (w1 : 0 ≤ row) (w2 : row ≤ 255) : Cv Try.prog 6 [.agg #[I l.boards, I l.rows, .slice ha l.hooks.length hc, .slice pa l.patches.length pc], .agg #[I s.b, I s.d], .int .u8 row] (KLane l ha hc pa pc) (.bool true) := by
  refine Cx_of Try.func6 rfl Try.ntmps6 rfl fun w0 M0 => ?_
  refine JC_seq ?_
  refine JC_region ?_
  refine JL_step rfl rfl rfl (jo_box rfl rfl) fun b3 => ?_
  refine JL_step rfl rfl rfl (jo_box rfl rfl) fun b4 => ?_
  refine JL_pd rfl (det_assign rfl) ?_
  refine JL_nil ?_
  refine JE_seq ?_
  refine JC_seq ?_
  refine JC_seq ?_
  refine JC_region ?_
  refine JL_dt rfl (det_loadKA rfl Try.isAgg25 Try.sizeOf25 rfl rfl) ?_
  refine JL_dt rfl (det_loadKA rfl Try.isAgg27 Try.sizeOf27 rfl rfl) ?_
  -- stop: op  2 t22 := (call (Call (value f36) (t20 t21) (25 27)))   <0 1>   276
  refine JL_step rfl rfl rfl (jo_callv rfl rfl Try.call36 rfl (lready_j l s ha pa hc pc)) fun _ => ?_
  refine JL_pd rfl (det_not rfl) ?_
  refine JL_pd rfl (det_move rfl) ?_
  -- stop: guard 4
  refine JL_split (d0 := 24) rfl (fun h1 => ?_) (fun h1 => ?_)
  · refine JL_skip rfl rfl h1 rfl ?_
    refine JL_skip rfl rfl h1 rfl ?_
    refine JL_skip rfl rfl h1 rfl ?_
    refine JL_pd rfl (det_pick_t rfl h1 rfl) ?_
    refine JL_nil ?_
    refine JE_seq ?_
    -- stop: cond
    refine JC_cond rfl (fun h2 => ?_) (fun h2 => ?_)
    · refine JC_seq ?_
      refine JC_region ?_
      -- stop: op  0 t29 := (call (Call (value f17) () ()))   277
      refine JL_step rfl rfl rfl (jo_callv rfl rfl Try.call17 rfl (lawake_j)) fun _ => ?_
      refine JL_pd rfl (det_assign rfl) ?_
      refine JL_nil ?_
      refine JE_seq ?_
      refine JC_ret ?_
      refine JE_seq_ret ?_
      -- stop: out
      refine JE_out (.inl rfl) () (results1 Try.results6 (res_tmp rfl)) rfl (List.Perm.refl _) (fun _ _ => trivial)
    · cases h2
  · obtain ⟨hthin, he⟩ := ready_of h1
    obtain ⟨V, h0⟩ := valid_start he
    have hth : l.patches.length ≤ 12 ∧ l.hooks.length ≤ 6 := by simpa [thin] using hthin
    have r1 := V.r1
    have r2 := V.r2
    have sb : 1 ≤ s.b ∧ s.b ≤ l.boards ∧ -5 ≤ s.d ∧ s.d ≤ 5 := by simpa [isStart] using h0
    have b2 := V.b2
    refine JL_guard rfl rfl h1 ?_
    refine JL_pd rfl (det_fieldAddr rfl fo_25_1) ?_
    refine JL_guard rfl rfl h1 ?_
    refine JL_dt rfl (det_loadK rfl Try.isAgg3 rfl) ?_
    refine JL_guard rfl rfl h1 ?_
    refine JL_pd rfl (det_lss rfl rfl) ?_
    refine JL_pd rfl (det_pick_f rfl h1 rfl) ?_
    refine JL_nil ?_
    refine JE_seq ?_
    -- stop: cond
    refine JC_if rfl (fun h2 => ?_) (fun h2 => ?_)
    · refine JC_seq ?_
      refine JC_region ?_
      -- stop: op  0 t29 := (call (Call (value f17) () ()))   277
      refine JL_step rfl rfl rfl (jo_callv rfl rfl Try.call17 rfl (lawake_j)) fun _ => ?_
      refine JL_pd rfl (det_assign rfl) ?_
      refine JL_nil ?_
      refine JE_seq ?_
      refine JC_ret ?_
      refine JE_seq_ret ?_
      -- stop: out
      refine JE_out (.inl rfl) () (results1 Try.results6 (res_tmp rfl)) rfl (List.Perm.refl _) (fun _ _ => trivial)
    · obtain ⟨k, hk⟩ : ∃ k : Nat, row.tmod (l.rows - 1) = k := ⟨(row.tmod (l.rows - 1)).toNat, by rw [Int.toNat_of_nonneg (Int.tmod_nonneg _ w1)]⟩
      have hkl : (k : Int) < l.rows - 1 := by rw [← hk]; exact Int.tmod_lt_of_pos _ (by omega)
      refine JC_skip ?_
      refine JE_seq ?_
      refine JC_seq ?_
      refine JC_region ?_
      refine JL_pd rfl (det_move rfl) ?_
      refine JL_pd rfl (det_convI rfl Try.runUnderlying5 Try.runUnderlying3 (i64_wrap ⟨by omega, by omega⟩)) ?_
      refine JL_pd rfl (det_fieldAddr rfl fo_25_1) ?_
      refine JL_dt rfl (det_loadK rfl Try.isAgg3 rfl) ?_
      refine JL_pd rfl (det_sub rfl rfl ⟨by omega, by omega⟩) ?_
      refine JL_pd rfl (det_rem rfl rfl (by omega)) ?_
      refine JL_pd rfl (det_assign rfl) ?_
      refine JL_nil ?_
      refine JE_seq ?_
      refine JC_seq ?_
      refine JC_draw [] (by kernel_rfl) ?_
      refine JA_dt (i := 0) rfl (by kernel_rfl) (by kernel_rfl) rfl rfl (det_loadKA rfl Try.isAgg25 Try.sizeOf25 rfl rfl) ?_
      refine JA_dt (i := 2) rfl (by kernel_rfl) (by kernel_rfl) rfl rfl (det_loadKA rfl Try.isAgg27 Try.sizeOf27 rfl rfl) ?_
      refine JA_pd (i := 4) rfl (by kernel_rfl) rfl rfl (det_move rfl) ?_
      -- stop: op  1 t38 := (call (Call (value f19) (t37) (25)))   <0>   280
      rw [hk]
      refine JA_one (i := 1) (by kernel_rfl) rfl rfl rfl (jo_call rfl rfl Try.call19 rfl (lLane_j l ha pa hc pc (by omega) (by omega))) (fun _ => ⟨hsub_drop 0 rfl, fun _ h => h.2⟩) fun ⟨⟨ha1, hc1⟩, pa1, pc1⟩ => ?_
      -- stop: op  3 t40 := (call (Call (value f20) (t39) (27)))   <2 1>   280
      refine JA_one (i := 3) (by kernel_rfl) rfl rfl rfl (jo_callv rfl rfl Try.call20 rfl (lStart_j s)) (fun _ => ⟨hsub_refl, fun _ h => h⟩) fun _ => ?_
      -- stop: op  5 t42 := (call (Call (value f18) (t38 t40 t41) (37 39 3)))   <1 3 4 3>   280
      refine JA_one (i := 5) (by kernel_rfl) rfl rfl rfl (jo_call rfl rfl Try.call18 rfl (Reach_jo l s k ha1 pa1 hc1 pc1 he (by omega))) (fun _ => ⟨hsub_drop 0 rfl, fun _ h => h.2⟩) fun ⟨ra, rc⟩ => ?_
      refine JA_pd (i := 6) rfl (by kernel_rfl) rfl rfl (det_move rfl) ?_
      refine JA_pd (i := 7) rfl (by kernel_rfl) rfl rfl (det_extract rfl rfl) ?_
      refine JA_pd (i := 8) rfl (by kernel_rfl) rfl rfl (det_extract rfl rfl) ?_
      refine JA_pd (i := 9) rfl (by kernel_rfl) rfl rfl (det_extract rfl rfl) ?_
      refine JA_pd (i := 10) rfl (by kernel_rfl) rfl rfl (det_assign rfl) ?_
      refine JA_pd (i := 11) rfl (by kernel_rfl) rfl rfl (det_assign rfl) ?_
      refine JA_pd (i := 12) rfl (by kernel_rfl) rfl rfl (det_assign rfl) ?_
      refine JA_done (by kernel_rfl) ?_
      refine JE_seq ?_
      refine JC_seq ?_
      refine JC_draw [] (by kernel_rfl) ?_
      refine JA_dt (i := 0) rfl (by kernel_rfl) (by kernel_rfl) rfl rfl (det_loadKA rfl Try.isAgg25 Try.sizeOf25 rfl rfl) ?_
      refine JA_dt (i := 2) rfl (by kernel_rfl) (by kernel_rfl) rfl rfl (det_loadKA rfl Try.isAgg27 Try.sizeOf27 rfl rfl) ?_
      refine JA_pd (i := 4) rfl (by kernel_rfl) rfl rfl (det_move rfl) ?_
      refine JA_pd (i := 5) rfl (by kernel_rfl) rfl rfl (det_add rfl rfl ⟨by omega, by omega⟩) ?_
      -- stop: op  1 t48 := (call (Call (value f19) (t47) (25)))   <0>   281
      refine JA_one (i := 1) (by kernel_rfl) rfl rfl rfl (jo_call rfl rfl Try.call19 rfl (lLane_j l ha pa hc pc (by omega) (by omega))) (fun _ => ⟨hsub_drop 0 rfl, fun _ h => h.2⟩) fun ⟨⟨ha2, hc2⟩, pa2, pc2⟩ => ?_
      -- stop: op  3 t50 := (call (Call (value f20) (t49) (27)))   <2 1>   281
      refine JA_one (i := 3) (by kernel_rfl) rfl rfl rfl (jo_callv rfl rfl Try.call20 rfl (lStart_j s)) (fun _ => ⟨hsub_refl, fun _ h => h⟩) fun _ => ?_
      -- stop: op  6 t53 := (call (Call (value f18) (t48 t50 t52) (37 39 3)))   <1 3 5 3>   281
      refine JA_one (i := 6) (by kernel_rfl) rfl rfl rfl (jo_call rfl rfl Try.call18 rfl (Reach_jo l s (k + 1) ha2 pa2 hc2 pc2 he (by omega))) (fun _ => ⟨hsub_drop 0 rfl, fun _ h => h.2⟩) fun ⟨rb, rd⟩ => ?_
      refine JA_pd (i := 7) rfl (by kernel_rfl) rfl rfl (det_move rfl) ?_
      refine JA_pd (i := 8) rfl (by kernel_rfl) rfl rfl (det_extract rfl rfl) ?_
      refine JA_pd (i := 9) rfl (by kernel_rfl) rfl rfl (det_extract rfl rfl) ?_
      refine JA_pd (i := 10) rfl (by kernel_rfl) rfl rfl (det_extract rfl rfl) ?_
      refine JA_pd (i := 11) rfl (by kernel_rfl) rfl rfl (det_assign rfl) ?_
      refine JA_pd (i := 12) rfl (by kernel_rfl) rfl rfl (det_assign rfl) ?_
      refine JA_pd (i := 13) rfl (by kernel_rfl) rfl rfl (det_assign rfl) ?_
      refine JA_done (by kernel_rfl) ?_
      refine JE_seq ?_
      refine JC_seq ?_
      refine JC_region ?_
      refine JL_pd rfl (det_assign rfl) ?_
      refine JL_nil ?_
      refine JE_seq ?_
      refine JC_seq ?_
      refine JC_region ?_
      refine JL_pd rfl (det_assign rfl) ?_
      refine JL_nil ?_
      refine JE_seq ?_
      refine JC_seq ?_
      refine JC_seq ?_
      refine JC_region ?_
      refine JL_pd rfl (det_assign rfl) ?_
      refine JL_nil ?_
      refine JE_seq ?_
      refine JC_block ?_
      -- stop: loop
      have hAl := rowL_len l s k V
      have hBl := rowL_len l s (k + 1) V
      have hA : ∀ a ∈ rowL l s k, (1 ≤ a.b ∧ a.b ≤ 40) ∧ -5 ≤ a.d ∧ a.d ≤ 5 := fun a ha => by
        have hr := (mem_rowL V h0).1 ha
        have h3 : 1 ≤ a.b ∧ a.b ≤ l.boards := by simpa [onL] using Rch.on (onL_start h0) hr
        exact ⟨by omega, Rch.d ⟨sb.2.2.1, sb.2.2.2⟩ hr⟩
      refine JC_nil 39 2 ?_
      refine JC_loop (γ := Nat × List St × Value × Bool) (I := fun q => q.1 ≤ (rowL l s k).length ∧ q.2.1 = nextL l k ((rowL l s k).take q.1) ∧ q.2.2.2 = fellB l k ((rowL l s k).take q.1) ∧ q.2.1.length ≤ 7 * q.1)
        (st' := fun q => [(16, I q.1), (15, .bool q.2.2.2), (14, q.2.2.1), (13, I 0), (12, .int .u8 (rowV l s (k + 1))), (11, .slice rb (rowL l s (k + 1)).length rd), (10, I 0), (9, .int .u8 (rowV l s k)), (8, .slice ra (rowL l s k).length rc), (7, I k), (3, pt b3)])
        (H' := fun q => [ow q.2.2.1 39 2 q.2.1.length (q.2.1.flatMap encSt), bx b3 [I l.boards, I l.rows, .slice ha l.hooks.length hc, .slice pa l.patches.length pc]])
        (R' := fun _ => KAnd (KSl rb (rowL l s (k + 1)).length rd encSt (rowL l s (k + 1))) (KAnd (KSl ra (rowL l s k).length rc encSt (rowL l s k)) (KLane l ha hc pa pc))) (μ := fun q => (rowL l s k).length - q.1) (0, [], .slice none 0 0, false) ⟨by simp, rfl, rfl, by simp⟩
        (stsub_cons rfl (stsub_cons rfl (stsub_cons rfl (stsub_cons rfl (stsub_cons rfl (stsub_cons rfl (stsub_cons rfl (stsub_cons rfl (stsub_cons rfl (stsub_cons rfl (stsub_cons rfl stsub_nil)))))))))))
        (show HSub _ [ow (.slice none 0 0) 39 2 0 [], bx b3 _] from hsub_cons (hsub_cons hsub_nil)) Knows.know ?_
      rintro ⟨i, L, v, f⟩ ⟨hi, hL, hf, hLl⟩ K hK
      dsimp only at hi hL hf hLl ⊢
      refine JC_seq ?_
      refine JC_seq ?_
      refine JC_region ?_
      refine JL_pd rfl (det_move rfl) ?_
      refine JL_pd rfl (det_move rfl) ?_
      refine JL_pd rfl (det_len rfl Try.runUnderlying30) ?_
      refine JL_pd rfl (det_lss rfl rfl) ?_
      refine JL_nil ?_
      refine JE_seq ?_
      -- stop: cond
      refine JC_if rfl (fun h3 => ?_) (fun h3 => ?_)
      · have hi2 : i < (rowL l s k).length := by omega
        have hm := hA _ (List.getElem_mem hi2)
        refine JC_skip ?_
        refine JE_seq ?_
        refine JC_seq ?_
        refine JC_block ?_
        refine JC_seq ?_
        -- stop: draw
        refine JC_cut2 (γ := Nat) (fun _ => True) (fun b => [(17, pt b), (16, I i), (15, .bool f), (14, v), (13, I 0), (12, .int .u8 (rowV l s (k + 1))), (11, .slice rb (rowL l s (k + 1)).length rd), (10, I 0), (9, .int .u8 (rowV l s k)), (8, .slice ra (rowL l s k).length rc), (7, I k), (3, pt b3)])
          (fun b => [bx b [I (hookOf l k (rowL l s k)[i].b).lo, I (hookOf l k (rowL l s k)[i].b).hi], ow v 39 2 L.length (L.flatMap encSt), bx b3 [I l.boards, I l.rows, .slice ha l.hooks.length hc, .slice pa l.patches.length pc]]) (fun _ => KAnd (KSl rb (rowL l s (k + 1)).length rd encSt (rowL l s (k + 1))) (KAnd (KSl ra (rowL l s k).length rc encSt (rowL l s k)) (KLane l ha hc pa pc))) ?_ ?_
        · intro K hK
          refine JC_draw [9] (by kernel_rfl) ?_
          refine JA_dt (i := 0) rfl (by kernel_rfl) (by kernel_rfl) rfl rfl (det_loadKA rfl Try.isAgg25 Try.sizeOf25 rfl rfl) ?_
          refine JA_pd (i := 1) rfl (by kernel_rfl) rfl rfl (det_move rfl) ?_
          refine JA_pd (i := 2) rfl (by kernel_rfl) rfl rfl (det_move rfl) ?_
          refine JA_pd (i := 3) rfl (by kernel_rfl) rfl rfl (det_move rfl) ?_
          refine JA_dt (i := 4) rfl (by kernel_rfl) (by kernel_rfl) rfl rfl (det_indexAddr rfl rfl (by first | rfl | omega) (by first | assumption | omega | decide) Try.runUnderlying30 Try.sizeOf39) ?_
          refine JA_pd (i := 5) rfl (by kernel_rfl) rfl rfl (det_fieldAddrE rfl fo_39_0) ?_
          refine JA_dt (i := 6) rfl (by kernel_rfl) (by kernel_rfl) rfl rfl (det_loadEk rfl (by first | assumption | omega | decide) Try.isAgg3 rfl rfl) ?_
          -- stop: multi [7, 8]
          refine JA_ready (rs := [7, 8]) (by kernel_rfl) rfl ?_
          refine JAl_cons (i := 7) rfl rfl rfl (jo_callv rfl rfl Try.call37 rfl (rHook_j l k (rowL l s k)[i].b ha pa hc pc V)) (fun _ => ⟨hsub_refl, fun _ h => h⟩) (fun _ => ?_) ?_
          · refine JA_one (i := 8) (by kernel_rfl) rfl rfl rfl (jo_alloc0 Try.zeroValue53 rfl) (fun _ => ⟨hsub_drop 1 rfl, fun _ h => h⟩) fun b17 => ?_
            refine JA_tail (i := 9) (by kernel_rfl) rfl rfl rfl rfl rfl (jo_store rfl rfl rfl (by first | (simp only [splice_norm]; done) | (simp only [splice_norm]; rfl) | rfl) Try.sizeOf53 rfl rfl) fun _ => ?_
            refine JT_done (by kernel_rfl) ?_
            exact JE_cut hK b17 trivial (stsub_cons rfl (stsub_cons rfl (stsub_cons rfl (stsub_cons rfl (stsub_cons rfl (stsub_cons rfl (stsub_cons rfl (stsub_cons rfl (stsub_cons rfl (stsub_cons rfl (stsub_cons rfl (stsub_cons rfl stsub_nil)))))))))))) (hsub_cons (hsub_cons (hsub_cons hsub_nil))) Knows.know
          refine JAl_cons (i := 8) rfl rfl rfl (jo_alloc0 Try.zeroValue53 rfl) (fun _ => ⟨hsub_drop 1 rfl, fun _ h => h⟩) (fun b17 => ?_) ?_
          · refine JA_one (i := 7) (by kernel_rfl) rfl rfl rfl (jo_callv rfl rfl Try.call37 rfl (rHook_j l k (rowL l s k)[i].b ha pa hc pc V)) (fun _ => ⟨hsub_refl, fun _ h => h⟩) fun _ => ?_
            refine JA_tail (i := 9) (by kernel_rfl) rfl rfl rfl rfl rfl (jo_store rfl rfl rfl (by first | (simp only [splice_norm]; done) | (simp only [splice_norm]; rfl) | rfl) Try.sizeOf53 rfl rfl) fun _ => ?_
            refine JT_done (by kernel_rfl) ?_
            exact JE_cut hK b17 trivial (stsub_cons rfl (stsub_cons rfl (stsub_cons rfl (stsub_cons rfl (stsub_cons rfl (stsub_cons rfl (stsub_cons rfl (stsub_cons rfl (stsub_cons rfl (stsub_cons rfl (stsub_cons rfl (stsub_cons rfl stsub_nil)))))))))))) (hsub_cons (hsub_cons (hsub_cons hsub_nil))) Knows.know
          exact JAl_nil
        rintro b17 -
        refine JC_seq ?_
        refine JC_region ?_
        refine JL_pd rfl (det_fieldAddr rfl fo_53_0) ?_
        refine JL_dt rfl (det_loadK rfl Try.isAgg3 rfl) ?_
        refine JL_pd rfl (det_assign rfl) ?_
        refine JL_nil ?_
        refine JE_seq ?_
        refine JC_block ?_
        -- stop: loop
        obtain ⟨a, haE⟩ : ∃ a, a = (rowL l s k)[i] := ⟨_, rfl⟩
        rw [← haE] at hm ⊢
        have hh := hookOf_bd V k a.b
        have hsl := steps_len V k a
        have hsn : (stepsOf l k a).length = ((hookOf l k a.b).hi - (hookOf l k a.b).lo + 1).toNat := by simp [stepsOf, turnsOf_len]
        refine JC_loop (γ := Nat × List St × Value × Bool) (I := fun q => q.1 ≤ (stepsOf l k a).length ∧ q.2.1 = nextL l k ((rowL l s k).take i) ++ ((stepsOf l k a).take q.1).filter (onL l) ∧ q.2.2.2 = (fellB l k ((rowL l s k).take i) || ((stepsOf l k a).take q.1).any fun t => !onL l t) ∧ q.2.1.length ≤ 7 * i + q.1)
          (st' := fun q => [(18, I ((hookOf l k a.b).lo + q.1)), (17, pt b17), (16, I i), (15, .bool q.2.2.2), (14, q.2.2.1), (13, I 0), (12, .int .u8 (rowV l s (k + 1))), (11, .slice rb (rowL l s (k + 1)).length rd), (10, I 0), (9, .int .u8 (rowV l s k)), (8, .slice ra (rowL l s k).length rc), (7, I k), (3, pt b3)])
          (H' := fun q => [bx b17 [I (hookOf l k a.b).lo, I (hookOf l k a.b).hi], ow q.2.2.1 39 2 q.2.1.length (q.2.1.flatMap encSt), bx b3 [I l.boards, I l.rows, .slice ha l.hooks.length hc, .slice pa l.patches.length pc]])
          (R' := fun _ => KAnd (KSl rb (rowL l s (k + 1)).length rd encSt (rowL l s (k + 1))) (KAnd (KSl ra (rowL l s k).length rc encSt (rowL l s k)) (KLane l ha hc pa pc))) (μ := fun q => (stepsOf l k a).length - q.1) (0, L, v, f) ⟨by simp, by simp [hL], by simp [hf], by simpa using hLl⟩
          (stsub_consI rfl (by simp) (stsub_cons rfl (stsub_cons rfl (stsub_cons rfl (stsub_cons rfl (stsub_cons rfl (stsub_cons rfl (stsub_cons rfl (stsub_cons rfl (stsub_cons rfl (stsub_cons rfl (stsub_cons rfl (stsub_cons rfl stsub_nil)))))))))))))
          (show HSub _ [bx b17 _, ow v 39 2 L.length (L.flatMap encSt), bx b3 _] from hsub_cons (hsub_cons (hsub_cons hsub_nil))) Knows.know ?_
        clear hL hf
        rintro ⟨j, L, v, f⟩ ⟨hj, hL, hf, hLl⟩ K2 hK2
        dsimp only at hj hL hf hLl ⊢
        refine JC_seq ?_
        refine JC_seq ?_
        refine JC_region ?_
        refine JL_pd rfl (det_move rfl) ?_
        refine JL_pd rfl (det_fieldAddr rfl fo_53_1) ?_
        refine JL_dt rfl (det_loadK rfl Try.isAgg3 rfl) ?_
        refine JL_pd rfl (det_leq rfl rfl) ?_
        refine JL_nil ?_
        refine JE_seq ?_
        -- stop: cond
        refine JC_if rfl (fun h4 => ?_) (fun h4 => ?_)
        · have hj2 : j < (stepsOf l k a).length := by omega
          have hst := steps_get k a j hj2
          subst haE
          refine JC_skip ?_
          refine JE_seq ?_
          refine JC_seq ?_
          refine JC_block ?_
          refine JC_seq ?_
          -- stop: draw
          refine JC_cut2 (γ := Nat) (fun _ => True) (fun b => [(19, pt b), (18, I ((hookOf l k (rowL l s k)[i].b).lo + j)), (17, pt b17), (16, I i), (15, .bool f), (14, v), (13, I 0), (12, .int .u8 (rowV l s (k + 1))), (11, .slice rb (rowL l s (k + 1)).length rd), (10, I 0), (9, .int .u8 (rowV l s k)), (8, .slice ra (rowL l s k).length rc), (7, I k), (3, pt b3)])
            (fun b => [bx b [I (nextS (rowL l s k)[i] ((hookOf l k (rowL l s k)[i].b).lo + j)).b, I (nextS (rowL l s k)[i] ((hookOf l k (rowL l s k)[i].b).lo + j)).d], bx b17 [I (hookOf l k (rowL l s k)[i].b).lo, I (hookOf l k (rowL l s k)[i].b).hi], ow v 39 2 L.length (L.flatMap encSt), bx b3 [I l.boards, I l.rows, .slice ha l.hooks.length hc, .slice pa l.patches.length pc]]) (fun _ => KAnd (KSl rb (rowL l s (k + 1)).length rd encSt (rowL l s (k + 1))) (KAnd (KSl ra (rowL l s k).length rc encSt (rowL l s k)) (KLane l ha hc pa pc))) ?_ ?_
          · intro K hK
            refine JC_draw [14] (by kernel_rfl) ?_
            refine JA_pd (i := 0) rfl (by kernel_rfl) rfl rfl (det_move rfl) ?_
            refine JA_pd (i := 1) rfl (by kernel_rfl) rfl rfl (det_move rfl) ?_
            refine JA_dt (i := 2) rfl (by kernel_rfl) (by kernel_rfl) rfl rfl (det_indexAddr rfl rfl (by first | rfl | omega) (by first | assumption | omega | decide) Try.runUnderlying30 Try.sizeOf39) ?_
            refine JA_pd (i := 3) rfl (by kernel_rfl) rfl rfl (det_fieldAddrE rfl fo_39_0) ?_
            refine JA_dt (i := 4) rfl (by kernel_rfl) (by kernel_rfl) rfl rfl (det_loadEk rfl (by first | assumption | omega | decide) Try.isAgg3 rfl rfl) ?_
            refine JA_pd (i := 5) rfl (by kernel_rfl) rfl rfl (det_move rfl) ?_
            refine JA_pd (i := 6) rfl (by kernel_rfl) rfl rfl (det_move rfl) ?_
            refine JA_dt (i := 7) rfl (by kernel_rfl) (by kernel_rfl) rfl rfl (det_indexAddr rfl rfl (by first | rfl | omega) (by first | assumption | omega | decide) Try.runUnderlying30 Try.sizeOf39) ?_
            refine JA_pd (i := 8) rfl (by kernel_rfl) rfl rfl (det_fieldAddrE rfl fo_39_1) ?_
            refine JA_dt (i := 9) rfl (by kernel_rfl) (by kernel_rfl) rfl rfl (det_loadEk rfl (by first | assumption | omega | decide) Try.isAgg3 rfl rfl) ?_
            refine JA_pd (i := 10) rfl (by kernel_rfl) rfl rfl (det_build rfl (bld_27_0_1 _ _)) ?_
            refine JA_pd (i := 11) rfl (by kernel_rfl) rfl rfl (det_move rfl) ?_
            -- stop: multi [12, 13]
            refine JA_ready (rs := [12, 13]) (by kernel_rfl) rfl ?_
            refine JAl_cons (i := 12) rfl rfl rfl (jo_callv rfl rfl Try.call38 rfl (rNext_j (rowL l s k)[i] ((hookOf l k (rowL l s k)[i].b).lo + j) hm.2.1 hm.2.2 (by omega) (by omega) (by omega) (by omega))) (fun _ => ⟨hsub_refl, fun _ h => h⟩) (fun _ => ?_) ?_
            · refine JA_one (i := 13) (by kernel_rfl) rfl rfl rfl (jo_alloc0 Try.zeroValue27 rfl) (fun _ => ⟨hsub_drop 1 rfl, fun _ h => h⟩) fun b19 => ?_
              refine JA_tail (i := 14) (by kernel_rfl) rfl rfl rfl rfl rfl (jo_store rfl rfl rfl (by first | (simp only [splice_norm]; done) | (simp only [splice_norm]; rfl) | rfl) Try.sizeOf27 rfl rfl) fun _ => ?_
              refine JT_done (by kernel_rfl) ?_
              exact JE_cut hK b19 trivial (stsub_cons rfl (stsub_cons rfl (stsub_cons rfl (stsub_cons rfl (stsub_cons rfl (stsub_cons rfl (stsub_cons rfl (stsub_cons rfl (stsub_cons rfl (stsub_cons rfl (stsub_cons rfl (stsub_cons rfl (stsub_cons rfl (stsub_cons rfl stsub_nil)))))))))))))) (hsub_cons (hsub_cons (hsub_cons (hsub_cons hsub_nil)))) Knows.know
            refine JAl_cons (i := 13) rfl rfl rfl (jo_alloc0 Try.zeroValue27 rfl) (fun _ => ⟨hsub_drop 1 rfl, fun _ h => h⟩) (fun b19 => ?_) ?_
            · refine JA_one (i := 12) (by kernel_rfl) rfl rfl rfl (jo_callv rfl rfl Try.call38 rfl (rNext_j (rowL l s k)[i] ((hookOf l k (rowL l s k)[i].b).lo + j) hm.2.1 hm.2.2 (by omega) (by omega) (by omega) (by omega))) (fun _ => ⟨hsub_refl, fun _ h => h⟩) fun _ => ?_
              refine JA_tail (i := 14) (by kernel_rfl) rfl rfl rfl rfl rfl (jo_store rfl rfl rfl (by first | (simp only [splice_norm]; done) | (simp only [splice_norm]; rfl) | rfl) Try.sizeOf27 rfl rfl) fun _ => ?_
              refine JT_done (by kernel_rfl) ?_
              exact JE_cut hK b19 trivial (stsub_cons rfl (stsub_cons rfl (stsub_cons rfl (stsub_cons rfl (stsub_cons rfl (stsub_cons rfl (stsub_cons rfl (stsub_cons rfl (stsub_cons rfl (stsub_cons rfl (stsub_cons rfl (stsub_cons rfl (stsub_cons rfl (stsub_cons rfl stsub_nil)))))))))))))) (hsub_cons (hsub_cons (hsub_cons (hsub_cons hsub_nil)))) Knows.know
            exact JAl_nil
          rintro b19 -
          rw [← hst]
          refine JC_seq ?_
          refine JC_region ?_
          refine JL_pd rfl (det_fieldAddr rfl fo_27_0) ?_
          refine JL_dt rfl (det_loadK rfl Try.isAgg3 rfl) ?_
          refine JL_pd rfl (det_fieldAddr rfl fo_25_0) ?_
          refine JL_dt rfl (det_loadK rfl Try.isAgg3 rfl) ?_
          -- stop: op  4 t96 := (call (Call (value f22) (t93 1 t95) (3 3 3)))   <1 3>   288
          refine JL_step rfl rfl rfl (jo_callv rfl rfl Try.call22 rfl (rIn_j (stepsOf l k (rowL l s k)[i])[j].b 1 l.boards)) fun _ => ?_
          refine JL_nil ?_
          refine JE_seq ?_
          -- stop: cond
          refine JC_cond rfl (fun h5 => ?_) (fun h5 => ?_)
          · refine JC_region ?_
            refine JL_pd rfl (det_move rfl) ?_
            refine JL_dt rfl (det_loadKA rfl Try.isAgg27 Try.sizeOf27 rfl rfl) ?_
            -- stop: op  2 t99 := (call (Call (value f20) (t98) (27)))   <1>   289
            refine JL_step rfl rfl rfl (jo_callv rfl rfl Try.call20 rfl (lStart_j (stepsOf l k (rowL l s k)[i])[j])) fun _ => ?_
            refine JL_step rfl rfl rfl (jo_buildSlice rfl (bsl_30_1_0 _ _)) fun b100 => ?_
            refine JL_step rfl rfl rfl (jo_append el_30 rfl rfl rfl rfl (by omega)) fun b101 => ?_
            refine JL_pd rfl (det_assign rfl) ?_
            refine JL_nil ?_
            refine JE_block ?_
            refine JE_seq ?_
            refine JC_region ?_
            refine JL_pd rfl (det_move rfl) ?_
            refine JL_pd rfl (det_add rfl rfl ⟨by omega, by omega⟩) ?_
            refine JL_pd rfl (det_assign rfl) ?_
            refine JL_nil ?_
            -- stop: end
            have hon : onL l (stepsOf l k (rowL l s k)[i])[j] = true := h5
            refine JE_round hK2 (j + 1, L ++ [(stepsOf l k (rowL l s k)[i])[j]], .slice (some ⟨b101.1, 0, none⟩) (L.length + 1) b101.2, f) ⟨by omega, ?_, ?_, ?_⟩ (by simp only; omega) ?_ ?_ Knows.know
            · simp only [take_snoc hj2, List.filter_append, hL, List.append_assoc]; simp [hon]
            · simp only [take_snoc hj2, List.any_append, hf]; simp [hon]
            · simp; omega
            · exact stsub_consI rfl (by simp only; omega) (stsub_cons rfl (stsub_cons rfl (stsub_cons rfl (stsub_cons rfl (stsub_cons rfl (stsub_cons rfl (stsub_cons rfl (stsub_cons rfl (stsub_cons rfl (stsub_cons rfl (stsub_cons rfl (stsub_cons rfl stsub_nil))))))))))))
            · exact hsub_cons (hsub_ow (by simp) (by simp [encSt]) (hsub_cons hsub_nil))
          · refine JC_region ?_
            refine JL_pd rfl (det_assign rfl) ?_
            refine JL_nil ?_
            refine JE_block ?_
            refine JE_seq ?_
            refine JC_region ?_
            refine JL_pd rfl (det_move rfl) ?_
            refine JL_pd rfl (det_add rfl rfl ⟨by omega, by omega⟩) ?_
            refine JL_pd rfl (det_assign rfl) ?_
            refine JL_nil ?_
            -- stop: end
            have hon : onL l (stepsOf l k (rowL l s k)[i])[j] = false := h5
            refine JE_round hK2 (j + 1, L, v, true) ⟨by omega, ?_, ?_, ?_⟩ (by simp only; omega) ?_ ?_ Knows.know
            · simp only [take_snoc hj2, List.filter_append, hL]; simp [hon]
            · simp only [take_snoc hj2, List.any_append]; simp [hon]
            · simp; omega
            · exact stsub_consI rfl (by simp only; omega) (stsub_cons rfl (stsub_cons rfl (stsub_cons rfl (stsub_cons rfl (stsub_cons rfl (stsub_cons rfl (stsub_cons rfl (stsub_cons rfl (stsub_cons rfl (stsub_cons rfl (stsub_cons rfl (stsub_cons rfl stsub_nil))))))))))))
            · exact hsub_cons (hsub_cons (hsub_cons hsub_nil))
        · have hj3 : j = (stepsOf l k a).length := by omega
          refine JC_exit ?_
          refine JE_seq_exit ?_
          refine JE_then_exit ?_
          refine JE_block_here ?_
          refine JE_block ?_
          refine JE_seq ?_
          refine JC_region ?_
          refine JL_pd rfl (det_move rfl) ?_
          refine JL_pd rfl (det_add rfl rfl ⟨by omega, by omega⟩) ?_
          refine JL_pd rfl (det_assign rfl) ?_
          refine JL_nil ?_
          -- stop: end
          refine JE_round hK (i + 1, L, v, f) ⟨by omega, ?_, ?_, by simp only; omega⟩ (by simp only; omega) ?_ ?_ Knows.know
          · simp only [take_snoc hi2, nextL_snoc, hL, ← haE, hj3, List.take_length]
          · simp only [take_snoc hi2, fellB_snoc, hf, ← haE, hj3, List.take_length]
          · exact stsub_consI rfl (by simp only; omega) (stsub_cons rfl (stsub_cons rfl (stsub_cons rfl (stsub_cons rfl (stsub_cons rfl (stsub_cons rfl (stsub_cons rfl (stsub_cons rfl (stsub_cons rfl (stsub_cons rfl stsub_nil))))))))))
          · exact hsub_cons (hsub_cons hsub_nil)
      · have hi3 : i = (rowL l s k).length := by omega
        rw [hi3, List.take_length] at hL hf
        refine JC_slice (enc := encSt) (v := v) L noFp rfl rfl ?_
        rintro a cap rfl
        have e1 := every_next V h0 k
        have e2 := every_back V h0 k
        have e3 := rowV_two (l := l) (s0 := s) k
        have e4 := rowV_two (l := l) (s0 := s) (k + 1)
        have e5 := rowV_next V h0 k
        rw [← hL] at e1 e2
        rw [← hf] at e5
        refine JC_exit ?_
        refine JE_seq_exit ?_
        refine JE_then_exit ?_
        refine JE_block_here ?_
        refine JE_seq ?_
        refine JC_seq ?_
        refine JC_seq ?_
        refine JC_region ?_
        refine JL_pd rfl (det_move rfl) ?_
        refine JL_pd rfl (det_neq rfl rfl) ?_
        refine JL_pd rfl (det_move rfl) ?_
        -- stop: guard 2
        refine JL_is (d0 := 104) false rfl (by rfl) (fun g1 => ?_)
        refine JL_guard rfl rfl g1 ?_
        refine JL_pd rfl (det_move rfl) ?_
        refine JL_guard rfl rfl g1 ?_
        refine JL_pd rfl (det_neq rfl rfl) ?_
        refine JL_pd rfl (det_pick_f rfl g1 rfl) ?_
        refine JL_pd rfl (det_move rfl) ?_
        -- stop: guard 6
        refine JL_is (d0 := 108) false rfl (by rfl) (fun g2 => ?_)
        refine JL_guard rfl rfl g2 ?_
        refine JL_pd rfl (det_move rfl) ?_
        refine JL_guard rfl rfl g2 ?_
        refine JL_pd rfl (det_move rfl) ?_
        refine JL_guard rfl rfl g2 ?_
        -- stop: op  9 t111 := (call (Call (value f39) (t109 t110) (30 30)))   <7 8 6 6>   295
        refine JL_step rfl rfl rfl (jo_callv rfl rfl Try.call39 rfl (levery_j L (rowL l s (k + 1)) a rb cap rd (by omega) (by omega))) fun _ => ?_
        refine JL_guard rfl rfl g2 ?_
        refine JL_pd rfl (det_not rfl) ?_
        refine JL_pd rfl (det_pick_f rfl g2 rfl) ?_
        refine JL_pd rfl (det_move rfl) ?_
        -- stop: guard 12
        refine JL_is (d0 := 114) false rfl (by rw [e1]; rfl) (fun g3 => ?_)
        refine JL_guard rfl rfl g3 ?_
        refine JL_pd rfl (det_move rfl) ?_
        refine JL_guard rfl rfl g3 ?_
        refine JL_pd rfl (det_move rfl) ?_
        refine JL_guard rfl rfl g3 ?_
        -- stop: op 15 t117 := (call (Call (value f39) (t115 t116) (30 30)))   <13 14 12 12>   295
        refine JL_step rfl rfl rfl (jo_callv rfl rfl Try.call39 rfl (levery_j (rowL l s (k + 1)) L rb a rd cap (by omega) (by omega))) fun _ => ?_
        refine JL_guard rfl rfl g3 ?_
        refine JL_pd rfl (det_not rfl) ?_
        refine JL_pd rfl (det_pick_f rfl g3 rfl) ?_
        refine JL_pd rfl (det_move rfl) ?_
        -- stop: guard 18
        refine JL_is (d0 := 120) false rfl (by rw [e2]; rfl) (fun g4 => ?_)
        refine JL_guard rfl rfl g4 ?_
        refine JL_pd rfl (det_move rfl) ?_
        refine JL_guard rfl rfl g4 ?_
        refine JL_pd rfl (det_eql rfl rfl) ?_
        refine JL_guard rfl rfl g4 ?_
        refine JL_pd rfl (det_move rfl) ?_
        refine JL_guard rfl rfl g4 ?_
        refine JL_pd rfl (det_len rfl Try.runUnderlying30) ?_
        refine JL_guard rfl rfl g4 ?_
        refine JL_pd rfl (det_eql rfl rfl) ?_
        refine JL_guard rfl rfl g4 ?_
        refine JL_pd rfl (det_neqB rfl rfl Try.underlying4) ?_
        refine JL_pd rfl (det_pick_f rfl g4 rfl) ?_
        refine JL_pd rfl (det_move rfl) ?_
        -- stop: guard 26
        refine JL_is (d0 := 128) false rfl (by simp [e3]) (fun g5 => ?_)
        refine JL_guard rfl rfl g5 ?_
        refine JL_pd rfl (det_move rfl) ?_
        refine JL_guard rfl rfl g5 ?_
        refine JL_pd rfl (det_eql rfl rfl) ?_
        refine JL_guard rfl rfl g5 ?_
        refine JL_pd rfl (det_move rfl) ?_
        refine JL_guard rfl rfl g5 ?_
        refine JL_pd rfl (det_len rfl Try.runUnderlying30) ?_
        refine JL_guard rfl rfl g5 ?_
        refine JL_pd rfl (det_eql rfl rfl) ?_
        refine JL_guard rfl rfl g5 ?_
        refine JL_pd rfl (det_neqB rfl rfl Try.underlying4) ?_
        refine JL_pd rfl (det_pick_f rfl g5 rfl) ?_
        refine JL_nil ?_
        refine JE_seq ?_
        -- stop: cond
        refine JC_cond rfl (fun h6 => ?_) (fun h6 => ?_)
        · simp [e4] at h6
        · refine JC_skip ?_
          refine JE_seq ?_
          refine JC_seq ?_
          refine JC_region ?_
          refine JL_pd rfl (det_move rfl) ?_
          refine JL_pd rfl (det_eql rfl rfl) ?_
          refine JL_pd rfl (det_move rfl) ?_
          refine JL_pd rfl (det_eql rfl rfl) ?_
          refine JL_pd rfl (det_move rfl) ?_
          -- stop: guard 4
          refine JL_split (d0 := 140) rfl (fun h7 => ?_) (fun h7 => ?_)
          · refine JL_guard rfl rfl h7 ?_
            refine JL_pd rfl (det_move rfl) ?_
            refine JL_guard rfl rfl h7 ?_
            refine JL_pd rfl (det_not rfl) ?_
            refine JL_pd rfl (det_pick_t rfl h7 rfl) ?_
            refine JL_pd rfl (det_eqlB rfl rfl Try.underlying4) ?_
            refine JL_pd rfl (det_move rfl) ?_
            -- stop: guard 9
            refine JL_is (d0 := 145) true rfl (by rw [beq_iff_eq]; simp at h7; simp [e5, h7]) (fun g6 => ?_)
            refine JL_guard rfl rfl g6 ?_
            -- stop: op 10 t146 := (call (Call (value f17) () ()))   <9 9>   298
            refine JL_step rfl rfl rfl (jo_callv rfl rfl Try.call17 rfl (lawake_j)) fun _ => ?_
            refine JL_pd rfl (det_pick_t rfl g6 rfl) ?_
            refine JL_pd rfl (det_assign rfl) ?_
            refine JL_nil ?_
            refine JE_seq ?_
            refine JC_ret ?_
            -- stop: out
            refine JE_out (.inl rfl) () (results1 Try.results6 (res_tmp rfl)) rfl (List.Perm.refl _) (fun _ _ => trivial)
          · refine JL_skip rfl rfl h7 rfl ?_
            refine JL_skip rfl rfl h7 rfl ?_
            refine JL_pd rfl (det_pick_f rfl h7 rfl) ?_
            refine JL_pd rfl (det_eqlB rfl rfl Try.underlying4) ?_
            refine JL_pd rfl (det_move rfl) ?_
            -- stop: guard 9
            refine JL_is (d0 := 145) true rfl (by rw [beq_iff_eq]; simp at h7; simp [e5, h7]) (fun g7 => ?_)
            refine JL_guard rfl rfl g7 ?_
            -- stop: op 10 t146 := (call (Call (value f17) () ()))   <9 9>   298
            refine JL_step rfl rfl rfl (jo_callv rfl rfl Try.call17 rfl (lawake_j)) fun _ => ?_
            refine JL_pd rfl (det_pick_t rfl g7 rfl) ?_
            refine JL_pd rfl (det_assign rfl) ?_
            refine JL_nil ?_
            refine JE_seq ?_
            refine JC_ret ?_
            -- stop: out
            refine JE_out (.inl rfl) () (results1 Try.results6 (res_tmp rfl)) rfl (List.Perm.refl _) (fun _ _ => trivial)
end Go.Proofs.Ytcfhbnfincpehaa

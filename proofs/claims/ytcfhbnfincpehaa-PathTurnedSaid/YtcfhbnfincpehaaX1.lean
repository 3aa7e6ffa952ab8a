/- Walks of the statements about path: Lane. -/
import Derived.Test.YtcfhbnfincpehaaW9
namespace Go.Proofs.Ytcfhbnfincpehaa
open Go.RowKit Go.Shelf

theorem take_snoc {α : Type} {l : List α} {i : Nat} (h : i < l.length) : l.take (i + 1) = l.take i ++ [l[i]] := by
  rw [List.take_add_one, List.getElem?_eq_getElem h]; rfl
set_option maxRecDepth 100000 in
theorem lLane_j (l : La) (ha pa : Option Addr) (hc pc : Nat) (hl : l.hooks.length ≤ 1000000) (pl : l.patches.length ≤ 1000000) : Cr Try.prog 19 [.agg #[I l.boards, I l.rows, .slice ha l.hooks.length hc, .slice pa l.patches.length pc]] (KLane l ha hc pa pc) (fun q : (Option Addr × Nat) × Option Addr × Nat => .agg #[I l.boards, I l.rows, .slice q.1.1 l.hooks.length q.1.2, .slice q.2.1 l.patches.length q.2.2])
    (fun q => KLane l q.1.1 q.1.2 q.2.1 q.2.2) := by
  refine Cx_of Try.func19 rfl Try.ntmps19 rfl fun w0 M0 => ?_
  refine JC_seq ?_
  refine JC_region ?_
  refine JL_step rfl rfl rfl (jo_box rfl rfl) fun b1 => ?_
  refine JL_step rfl rfl rfl (jo_alloc0 Try.zeroValue37 rfl) fun b2 => ?_
  refine JL_nil ?_
  refine JE_seq ?_
  refine JC_seq ?_
  refine JC_region ?_
  refine JL_pd rfl (det_fieldAddr rfl fo_25_0) ?_
  refine JL_dt rfl (det_loadK rfl Try.isAgg3 rfl) ?_
  refine JL_pd rfl (det_fieldAddr rfl fo_25_1) ?_
  refine JL_dt rfl (det_loadK rfl Try.isAgg3 rfl) ?_
  refine JL_pd rfl (det_build rfl (bld_37_0_1 _ _)) ?_
  refine JL_step rfl rfl rfl (jo_alloc0 Try.zeroValue37 rfl) fun b3 => ?_
  refine JL_step0 rfl rfl (jo_store rfl rfl rfl (by first | (simp only [splice_norm]; done) | (simp only [splice_norm]; rfl) | rfl) Try.sizeOf37 rfl rfl) fun _ => ?_
  refine JL_nil ?_
  refine JE_seq ?_
  refine JC_seq ?_
  refine JC_seq ?_
  refine JC_region ?_
  refine JL_pd rfl (det_assign rfl) ?_
  refine JL_nil ?_
  refine JE_seq ?_
  refine JC_block ?_
  -- stop: loop
  refine JC_nil 49 2 ?_
  refine JC_loop (γ := Nat × Value) (I := fun q => q.1 ≤ l.hooks.length)
    (st' := fun q => [(4, I q.1), (3, pt b3), (2, pt b2), (1, pt b1)]) (H' := fun q => [ow q.2 49 2 q.1 ((l.hooks.take q.1).flatMap encRg), bx b3 [I l.boards, I l.rows, q.2, .slice none 0 0], bx b2 [I 0, I 0, .slice none 0 0, .slice none 0 0], bx b1 [I l.boards, I l.rows, .slice ha l.hooks.length hc, .slice pa l.patches.length pc]])
    (R' := fun _ => KLane l ha hc pa pc) (μ := fun q => l.hooks.length - q.1) (0, .slice none 0 0) (by simp) (stsub_cons rfl (stsub_cons rfl (stsub_cons rfl (stsub_cons rfl stsub_nil)))) (show HSub _ [ow (.slice none 0 0) 49 2 0 [], bx b3 _, bx b2 _, bx b1 _] from hsub_cons (hsub_cons (hsub_cons (hsub_cons hsub_nil)))) (Knows.know) ?_
  rintro ⟨i, v⟩ hi K hK
  dsimp only at hi ⊢
  refine JC_seq ?_
  refine JC_seq ?_
  refine JC_region ?_
  refine JL_pd rfl (det_move rfl) ?_
  refine JL_pd rfl (det_fieldAddr rfl fo_25_2) ?_
  refine JL_dt rfl (det_loadK rfl Try.isAgg22 rfl) ?_
  refine JL_pd rfl (det_len rfl Try.runUnderlying22) ?_
  refine JL_pd rfl (det_lss rfl rfl) ?_
  refine JL_nil ?_
  refine JE_seq ?_
  -- stop: cond
  refine JC_if rfl (fun h1 => ?_) (fun h1 => ?_)
  · refine JC_skip ?_
    refine JE_seq ?_
    refine JC_seq ?_
    refine JC_block ?_
    refine JC_draw [9, 11] (by kernel_rfl) ?_
    refine JA_pd (i := 0) rfl (by kernel_rfl) rfl rfl (det_fieldAddr rfl fo_37_2) ?_
    refine JA_dt (i := 1) rfl (by kernel_rfl) (by kernel_rfl) rfl rfl (det_loadK rfl Try.isAgg34 rfl) ?_
    refine JA_pd (i := 2) rfl (by kernel_rfl) rfl rfl (det_fieldAddr rfl fo_25_2) ?_
    refine JA_dt (i := 3) rfl (by kernel_rfl) (by kernel_rfl) rfl rfl (det_loadK rfl Try.isAgg22 rfl) ?_
    refine JA_pd (i := 4) rfl (by kernel_rfl) rfl rfl (det_move rfl) ?_
    refine JA_dt (i := 5) rfl (by kernel_rfl) (by kernel_rfl) rfl rfl (det_indexAddr rfl rfl (by first | rfl | omega) (by first | assumption | omega | decide) Try.runUnderlying22 Try.sizeOf53) ?_
    refine JA_dt (i := 6) rfl (by kernel_rfl) (by kernel_rfl) rfl rfl (det_loadEA rfl (by first | assumption | omega | decide) Try.isAgg53 Try.sizeOf53 rfl rfl rfl) ?_
    -- stop: op  7 t26 := (call (Call (value f26) (t25) (53)))   <6>   25
    have hi2 : i < l.hooks.length := by omega
    refine JA_one (i := 7) (by kernel_rfl) rfl rfl rfl (jo_callv rfl rfl Try.call26 rfl (lTo_j l.hooks[i])) (fun _ => ⟨hsub_refl, fun _ h => h⟩) fun _ => ?_
    refine JA_one (i := 8) (by kernel_rfl) rfl rfl rfl (jo_buildSlice rfl (bsl_34_1_0 _ _)) (fun _ => ⟨hsub_drop 1 rfl, fun _ h => h⟩) fun b27 => ?_
    refine JA_tail (i := 9) (by kernel_rfl) rfl rfl rfl rfl rfl (jo_append el_34 rfl rfl rfl rfl (by omega)) fun b28 => ?_
    refine JT_pd (i := 10) rfl (by kernel_rfl) rfl rfl (det_fieldAddr rfl fo_37_2) ?_
    refine JT_one (i := 11) (by kernel_rfl) rfl rfl rfl (jo_store rfl rfl rfl (by first | (simp only [splice_norm]; done) | (simp only [splice_norm]; rfl) | rfl) Try.sizeOf34 rfl rfl) fun _ => ?_
    refine JT_done (by kernel_rfl) ?_
    refine JE_block ?_
    refine JE_seq ?_
    refine JC_region ?_
    refine JL_pd rfl (det_move rfl) ?_
    refine JL_pd rfl (det_add rfl rfl ⟨by omega, by omega⟩) ?_
    refine JL_pd rfl (det_assign rfl) ?_
    refine JL_nil ?_
    -- stop: end
    refine JE_round hK (i + 1, .slice (some ⟨b28.1, 0, none⟩) (i + 1) b28.2) (by simp only; omega) (by simp only; omega) ?_ ?_ Knows.know
    · exact stsub_consI rfl (by omega) (stsub_cons rfl (stsub_cons rfl (stsub_cons rfl stsub_nil)))
    · exact hsub_ow rfl (by simp only [take_snoc hi2, List.flatMap_append, List.flatMap_cons, List.flatMap_nil, encRg, List.append_nil]) (hsub_cons (hsub_cons (hsub_cons hsub_nil)))
  · refine JC_exit ?_
    refine JE_seq_exit ?_
    refine JE_then_exit ?_
    refine JE_block_here ?_
    refine JE_seq ?_
    refine JC_seq ?_
    refine JC_seq ?_
    refine JC_region ?_
    refine JL_pd rfl (det_assign rfl) ?_
    refine JL_nil ?_
    refine JE_seq ?_
    refine JC_block ?_
    -- stop: loop
    obtain rfl : i = l.hooks.length := by omega
    refine JC_nil 116 5 ?_
    refine JC_loop (γ := Nat × Value) (I := fun q => q.1 ≤ l.patches.length)
      (st' := fun q => [(5, I q.1), (3, pt b3), (2, pt b2), (1, pt b1)]) (H' := fun q => [ow q.2 116 5 q.1 ((l.patches.take q.1).flatMap encPa), ow v 49 2 l.hooks.length (l.hooks.flatMap encRg), bx b3 [I l.boards, I l.rows, v, q.2], bx b2 [I 0, I 0, .slice none 0 0, .slice none 0 0], bx b1 [I l.boards, I l.rows, .slice ha l.hooks.length hc, .slice pa l.patches.length pc]])
      (R' := fun _ => KLane l ha hc pa pc) (μ := fun q => l.patches.length - q.1) (0, .slice none 0 0) (by simp) (stsub_cons rfl (stsub_cons rfl (stsub_cons rfl (stsub_cons rfl stsub_nil)))) (show HSub _ [ow (.slice none 0 0) 116 5 0 [], ow _ _ _ _ _, bx b3 _, bx b2 _, bx b1 _] from hsub_cons (hsub_ow rfl (by rw [List.take_length]) (hsub_cons (hsub_cons (hsub_cons hsub_nil))))) (Knows.know) ?_
    rintro ⟨j, u⟩ hj K2 hK2
    dsimp only at hj ⊢
    refine JC_seq ?_
    refine JC_seq ?_
    refine JC_region ?_
    refine JL_pd rfl (det_move rfl) ?_
    refine JL_pd rfl (det_fieldAddr rfl fo_25_3) ?_
    refine JL_dt rfl (det_loadK rfl Try.isAgg23 rfl) ?_
    refine JL_pd rfl (det_len rfl Try.runUnderlying23) ?_
    refine JL_pd rfl (det_lss rfl rfl) ?_
    refine JL_nil ?_
    refine JE_seq ?_
    -- stop: cond
    refine JC_if rfl (fun h2 => ?_) (fun h2 => ?_)
    · refine JC_skip ?_
      refine JE_seq ?_
      refine JC_seq ?_
      refine JC_block ?_
      refine JC_seq ?_
      refine JC_region ?_
      refine JL_pd rfl (det_fieldAddr rfl fo_25_3) ?_
      refine JL_dt rfl (det_loadK rfl Try.isAgg23 rfl) ?_
      refine JL_pd rfl (det_move rfl) ?_
      refine JL_dt rfl (det_indexAddr rfl rfl (by first | rfl | omega) (by first | assumption | omega | decide) Try.runUnderlying23 Try.sizeOf89) ?_
      refine JL_dt rfl (det_loadEA rfl (by first | assumption | omega | decide) Try.isAgg89 Try.sizeOf89 rfl rfl rfl) ?_
      refine JL_step rfl rfl rfl (jo_alloc0 Try.zeroValue89 rfl) fun b6 => ?_
      refine JL_step0 rfl rfl (jo_store rfl rfl rfl (by first | (simp only [splice_norm]; done) | (simp only [splice_norm]; rfl) | rfl) Try.sizeOf89 rfl rfl) fun _ => ?_
      refine JL_nil ?_
      refine JE_seq ?_
      refine JC_draw [12, 14] (by kernel_rfl) ?_
      refine JA_pd (i := 0) rfl (by kernel_rfl) rfl rfl (det_fieldAddr rfl fo_37_3) ?_
      refine JA_dt (i := 1) rfl (by kernel_rfl) (by kernel_rfl) rfl rfl (det_loadK rfl Try.isAgg35 rfl) ?_
      refine JA_pd (i := 2) rfl (by kernel_rfl) rfl rfl (det_fieldAddr rfl fo_89_0) ?_
      refine JA_dt (i := 3) rfl (by kernel_rfl) (by kernel_rfl) rfl rfl (det_loadKA rfl Try.isAgg53 Try.sizeOf53 rfl rfl) ?_
      refine JA_pd (i := 5) rfl (by kernel_rfl) rfl rfl (det_fieldAddr rfl fo_89_1) ?_
      refine JA_dt (i := 6) rfl (by kernel_rfl) (by kernel_rfl) rfl rfl (det_loadKA rfl Try.isAgg53 Try.sizeOf53 rfl rfl) ?_
      refine JA_pd (i := 8) rfl (by kernel_rfl) rfl rfl (det_fieldAddr rfl fo_89_2) ?_
      refine JA_dt (i := 9) rfl (by kernel_rfl) (by kernel_rfl) rfl rfl (det_loadK rfl Try.isAgg3 rfl) ?_
      -- stop: op  4 t46 := (call (Call (value f26) (t45) (53)))   <3>   29
      have hj2 : j < l.patches.length := by omega
      refine JA_one (i := 4) (by kernel_rfl) rfl rfl rfl (jo_callv rfl rfl Try.call26 rfl (lTo_j l.patches[j].rows)) (fun _ => ⟨hsub_refl, fun _ h => h⟩) fun _ => ?_
      -- stop: op  7 t49 := (call (Call (value f26) (t48) (53)))   <6 4>   29
      refine JA_one (i := 7) (by kernel_rfl) rfl rfl rfl (jo_callv rfl rfl Try.call26 rfl (lTo_j l.patches[j].boards)) (fun _ => ⟨hsub_refl, fun _ h => h⟩) fun _ => ?_
      refine JA_pd (i := 10) rfl (by kernel_rfl) rfl rfl (det_build rfl (bld_116_0_1_2 _ _ _ _ _)) ?_
      refine JA_one (i := 11) (by kernel_rfl) rfl rfl rfl (jo_buildSlice rfl (bsl_35_1_0 _ _ _ _ _)) (fun _ => ⟨hsub_drop 1 rfl, fun _ h => h⟩) fun b53 => ?_
      refine JA_tail (i := 12) (by kernel_rfl) rfl rfl rfl rfl rfl (jo_append el_35 rfl rfl rfl rfl (by omega)) fun b54 => ?_
      refine JT_pd (i := 13) rfl (by kernel_rfl) rfl rfl (det_fieldAddr rfl fo_37_3) ?_
      refine JT_one (i := 14) (by kernel_rfl) rfl rfl rfl (jo_store rfl rfl rfl (by first | (simp only [splice_norm]; done) | (simp only [splice_norm]; rfl) | rfl) Try.sizeOf35 rfl rfl) fun _ => ?_
      refine JT_done (by kernel_rfl) ?_
      refine JE_block ?_
      refine JE_seq ?_
      refine JC_region ?_
      refine JL_pd rfl (det_move rfl) ?_
      refine JL_pd rfl (det_add rfl rfl ⟨by omega, by omega⟩) ?_
      refine JL_pd rfl (det_assign rfl) ?_
      refine JL_nil ?_
      -- stop: end
      refine JE_round hK2 (j + 1, .slice (some ⟨b54.1, 0, none⟩) (j + 1) b54.2) (by simp only; omega) (by simp only; omega) ?_ ?_ Knows.know
      · exact stsub_consI rfl (by omega) (stsub_cons rfl (stsub_cons rfl (stsub_cons rfl stsub_nil)))
      · exact hsub_ow rfl (by simp only [take_snoc hj2, List.flatMap_append, List.flatMap_cons, List.flatMap_nil, encPa, List.append_nil]) (hsub_cons (hsub_cons (hsub_cons (hsub_cons hsub_nil))))
    · obtain rfl : j = l.patches.length := by omega
      refine JC_slice (enc := encRg) (v := v) l.hooks noFp rfl rfl ?_
      rintro a cap rfl
      refine JC_slice (enc := encPa) (v := u) l.patches noFp (by rw [List.take_length]) rfl ?_
      rintro a2 cap2 rfl
      refine JC_exit ?_
      refine JE_seq_exit ?_
      refine JE_then_exit ?_
      refine JE_block_here ?_
      refine JE_seq ?_
      refine JC_seq ?_
      refine JC_region ?_
      refine JL_dt rfl (det_loadKA rfl Try.isAgg37 Try.sizeOf37 rfl rfl) ?_
      refine JL_step0 rfl rfl (jo_store rfl rfl rfl (by first | (simp only [splice_norm]; done) | (simp only [splice_norm]; rfl) | rfl) Try.sizeOf37 rfl rfl) fun _ => ?_
      refine JL_nil ?_
      refine JE_seq ?_
      refine JC_ret ?_
      -- stop: out
      refine JE_out (.inl rfl) ((a, cap), a2, cap2) (results1 Try.results19 (res_box rfl Try.isAgg37 Try.sizeOf37 rfl)) rfl (List.Perm.refl _) (fun w h => ⟨h.2.1, h.1⟩)
end Go.Proofs.Ytcfhbnfincpehaa

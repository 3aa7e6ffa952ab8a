/- Walks of the statements about path: has, every, oiled; of the reference: Hook. -/
import Derived.Test.YtcfhbnfincpehaaX1
namespace Go.Proofs.Ytcfhbnfincpehaa
open Go.RowKit Go.Shelf

theorem KSl_of_box {α : Type} {enc : α → List Value} {xs : List α} {b n : Nat} {cs : List Value} {w : World} (hc : cs = xs.flatMap enc) (hn : n = xs.length) (hm : n ≤ maxLen) (h : Box w b cs) : KSl (some ⟨b, 0, none⟩) n n enc xs w := by
  subst hc
  refine ⟨⟨Nat.le_refl _, hm, fun h => (by cases h), fun _ => ⟨b, 0, rfl, h.lt, fun i c hi => ?_⟩⟩, hn⟩
  have := h.cell i hi
  simpa using this
set_option maxRecDepth 100000 in
theorem lhas_j (xs : List St) (a : Option Addr) (cap : Nat) (s : St) (hx : xs.length ≤ 1000000) : Cv Try.prog 46 [.slice a xs.length cap, .agg #[I s.b, I s.d]] (KSl a xs.length cap encSt xs) (.bool (decide (s ∈ xs))) := by
  refine Cx_of Try.func46 rfl Try.ntmps46 rfl fun w0 M0 => ?_
  refine JC_seq ?_
  refine JC_region ?_
  refine JL_step rfl rfl rfl (jo_box rfl rfl) fun b3 => ?_
  refine JL_pd rfl (det_assign rfl) ?_
  refine JL_nil ?_
  refine JE_seq ?_
  refine JC_seq ?_
  refine JC_seq ?_
  refine JC_region ?_
  refine JL_pd rfl (det_assign rfl) ?_
  refine JL_nil ?_
  refine JE_seq ?_
  refine JC_block ?_
  -- stop: loop
  refine JC_loop (γ := Nat) (I := fun i => i ≤ xs.length ∧ s ∉ xs.take i) (st' := fun i => [(5, I i), (3, pt b3), (0, .slice a xs.length cap)]) (H' := fun _ => [bx b3 [I s.b, I s.d]])
    (R' := fun _ => KSl a xs.length cap encSt xs) (μ := fun i => xs.length - i) 0 ⟨by omega, by simp⟩ (stsub_cons rfl (stsub_cons rfl (stsub_cons rfl stsub_nil))) (hsub_cons hsub_nil) Knows.know ?_
  rintro i ⟨hi, hno⟩ K hK
  refine JC_seq ?_
  refine JC_seq ?_
  refine JC_region ?_
  refine JL_pd rfl (det_move rfl) ?_
  refine JL_pd rfl (det_move rfl) ?_
  refine JL_pd rfl (det_len rfl Try.runUnderlying30) ?_
  refine JL_pd rfl (det_lss rfl rfl) ?_
  refine JL_nil ?_
  refine JE_seq ?_
  -- stop: cond
  refine JC_if rfl (fun h1 => ?_) (fun h1 => ?_)
  · refine JC_skip ?_
    refine JE_seq ?_
    refine JC_seq ?_
    refine JC_block ?_
    refine JC_seq ?_
    refine JC_draw [] (by kernel_rfl) ?_
    refine JA_pd (i := 0) rfl (by kernel_rfl) rfl rfl (det_move rfl) ?_
    refine JA_pd (i := 1) rfl (by kernel_rfl) rfl rfl (det_move rfl) ?_
    refine JA_dt (i := 2) rfl (by kernel_rfl) (by kernel_rfl) rfl rfl (det_indexAddr rfl rfl (by first | rfl | omega) (by first | assumption | omega | decide) Try.runUnderlying30 Try.sizeOf39) ?_
    refine JA_dt (i := 3) rfl (by kernel_rfl) (by kernel_rfl) rfl rfl (det_loadEA rfl (by first | assumption | omega | decide) Try.isAgg39 Try.sizeOf39 rfl rfl rfl) ?_
    refine JA_dt (i := 4) rfl (by kernel_rfl) (by kernel_rfl) rfl rfl (det_loadKA rfl Try.isAgg39 Try.sizeOf39 rfl rfl) ?_
    refine JA_pd (i := 5) rfl (by kernel_rfl) rfl rfl (det_eqlA rfl rfl egt_39 (eqa_39 _ _ _ _)) ?_
    refine JA_done (by kernel_rfl) ?_
    refine JE_seq ?_
    -- stop: cond
    have hi2 : i < xs.length := by omega
    -- stop: cond
    refine JC_cond rfl (fun h2 => ?_) (fun h2 => ?_)
    · refine JC_seq ?_
      refine JC_region ?_
      refine JL_pd rfl (det_assign rfl) ?_
      refine JL_nil ?_
      refine JE_seq ?_
      refine JC_ret ?_
      refine JE_block_ret ?_
      refine JE_seq_ret ?_
      refine JE_then_ret ?_
      refine JE_block_ret ?_
      refine JE_seq_ret ?_
      -- stop: out
      simp only [decide_eq_true_eq] at h2
      refine JE_out (.inl rfl) () (results1 Try.results46 (res_tmp rfl)) (by rw [decide_eq_true]; rw [show s = xs[i] from St.ext'.2 ⟨h2.1.symm, h2.2.symm⟩]; exact List.getElem_mem _) (List.Perm.refl _) (fun _ _ => trivial)
    · refine JC_skip ?_
      refine JE_block ?_
      refine JE_seq ?_
      refine JC_region ?_
      refine JL_pd rfl (det_move rfl) ?_
      refine JL_pd rfl (det_add rfl rfl ⟨by omega, by omega⟩) ?_
      refine JL_pd rfl (det_assign rfl) ?_
      refine JL_nil ?_
      -- stop: end
      simp only [decide_eq_false_iff_not] at h2
      refine JE_round hK (i + 1) ⟨by omega, ?_⟩ (by omega) (stsub_consI rfl (by omega) (stsub_cons rfl (stsub_cons rfl stsub_nil))) (hsub_cons hsub_nil) Knows.know
      rw [take_snoc hi2]
      simp only [List.mem_append, List.mem_singleton, not_or]
      exact ⟨hno, fun e => h2 ⟨by rw [e], by rw [e]⟩⟩
  · refine JC_exit ?_
    refine JE_seq_exit ?_
    refine JE_then_exit ?_
    refine JE_block_here ?_
    refine JE_seq ?_
    refine JC_seq ?_
    refine JC_region ?_
    refine JL_pd rfl (det_assign rfl) ?_
    refine JL_nil ?_
    refine JE_seq ?_
    refine JC_ret ?_
    -- stop: out
    refine JE_out (.inl rfl) () (results1 Try.results46 (res_tmp rfl)) (by rw [decide_eq_false]; rwa [List.take_of_length_le (by omega)] at hno) (List.Perm.refl _) (fun _ _ => trivial)
def everyB (xs ys : List St) : Bool := xs.all fun x => decide (x ∈ ys)
set_option maxRecDepth 100000 in
theorem levery_j (xs ys : List St) (a a' : Option Addr) (cap cap' : Nat) (hx : xs.length ≤ 1000000) (hy : ys.length ≤ 1000000) :
    Cv Try.prog 39 [.slice a xs.length cap, .slice a' ys.length cap'] (KAnd (KSl a xs.length cap encSt xs) (KSl a' ys.length cap' encSt ys)) (.bool (everyB xs ys)) := by
  refine Cx_of Try.func39 rfl Try.ntmps39 rfl fun w0 M0 => ?_
  refine JC_seq ?_
  refine JC_region ?_
  refine JL_pd rfl (det_assign rfl) ?_
  refine JL_nil ?_
  refine JE_seq ?_
  refine JC_seq ?_
  refine JC_seq ?_
  refine JC_region ?_
  refine JL_pd rfl (det_assign rfl) ?_
  refine JL_nil ?_
  refine JE_seq ?_
  refine JC_block ?_
  -- stop: loop
  refine JC_loop (γ := Nat) (I := fun i => i ≤ xs.length ∧ (xs.take i).all (fun x => decide (x ∈ ys)) = true) (st' := fun i => [(5, I i), (1, .slice a' ys.length cap'), (0, .slice a xs.length cap)]) (H' := fun _ => [])
    (R' := fun _ => KAnd (KSl a xs.length cap encSt xs) (KSl a' ys.length cap' encSt ys)) (μ := fun i => xs.length - i) 0 ⟨by omega, by simp⟩ (stsub_cons rfl (stsub_cons rfl (stsub_cons rfl stsub_nil))) hsub_nil Knows.know ?_
  rintro i ⟨hi, hno⟩ K hK
  refine JC_seq ?_
  refine JC_seq ?_
  refine JC_region ?_
  refine JL_pd rfl (det_move rfl) ?_
  refine JL_pd rfl (det_move rfl) ?_
  refine JL_pd rfl (det_len rfl Try.runUnderlying30) ?_
  refine JL_pd rfl (det_lss rfl rfl) ?_
  refine JL_nil ?_
  refine JE_seq ?_
  -- stop: cond
  refine JC_if rfl (fun h1 => ?_) (fun h1 => ?_)
  · refine JC_skip ?_
    refine JE_seq ?_
    refine JC_seq ?_
    refine JC_block ?_
    refine JC_seq ?_
    refine JC_region ?_
    refine JL_pd rfl (det_move rfl) ?_
    refine JL_pd rfl (det_move rfl) ?_
    refine JL_pd rfl (det_move rfl) ?_
    refine JL_dt rfl (det_indexAddr rfl rfl (by first | rfl | omega) (by first | assumption | omega | decide) Try.runUnderlying30 Try.sizeOf39) ?_
    refine JL_dt rfl (det_loadEA rfl (by first | assumption | omega | decide) Try.isAgg39 Try.sizeOf39 rfl rfl rfl) ?_
    -- stop: op  5 t17 := (call (Call (value f46) (t12 t16) (30 39)))   <0 4>   150
    have hi2 : i < xs.length := by omega
    refine JL_step rfl rfl rfl (jo_callv rfl rfl Try.call46 rfl (lhas_j ys a' cap' xs[i] hy)) fun _ => ?_
    refine JL_pd rfl (det_not rfl) ?_
    refine JL_nil ?_
    refine JE_seq ?_
    -- stop: cond
    refine JC_cond rfl (fun h2 => ?_) (fun h2 => ?_)
    · refine JC_seq ?_
      refine JC_region ?_
      refine JL_pd rfl (det_assign rfl) ?_
      refine JL_nil ?_
      refine JE_seq ?_
      refine JC_ret ?_
      refine JE_block_ret ?_
      refine JE_seq_ret ?_
      refine JE_then_ret ?_
      refine JE_block_ret ?_
      refine JE_seq_ret ?_
      -- stop: out
      simp at h2
      refine JE_out (.inl rfl) () (results1 Try.results39 (res_tmp rfl)) (by rw [show everyB xs ys = false from by unfold everyB; rw [List.all_eq_false]; exact ⟨xs[i], List.getElem_mem _, by simpa using h2⟩]) (List.Perm.refl _) (fun _ _ => trivial)
    · refine JC_skip ?_
      refine JE_block ?_
      refine JE_seq ?_
      refine JC_region ?_
      refine JL_pd rfl (det_move rfl) ?_
      refine JL_pd rfl (det_add rfl rfl ⟨by omega, by omega⟩) ?_
      refine JL_pd rfl (det_assign rfl) ?_
      refine JL_nil ?_
      -- stop: end
      simp at h2
      refine JE_round hK (i + 1) ⟨by omega, ?_⟩ (by omega) (stsub_consI rfl (by omega) (stsub_cons rfl (stsub_cons rfl stsub_nil))) hsub_nil Knows.know
      rw [take_snoc hi2, List.all_append, hno]
      simp [h2]
  · refine JC_exit ?_
    refine JE_seq_exit ?_
    refine JE_then_exit ?_
    refine JE_block_here ?_
    refine JE_seq ?_
    refine JC_seq ?_
    refine JC_region ?_
    refine JL_pd rfl (det_assign rfl) ?_
    refine JL_nil ?_
    refine JE_seq ?_
    refine JC_ret ?_
    -- stop: out
    refine JE_out (.inl rfl) () (results1 Try.results39 (res_tmp rfl)) (by rw [List.take_of_length_le (by omega)] at hno; rw [show everyB xs ys = true from hno]) (List.Perm.refl _) (fun _ _ => trivial)
def oiledL : La := ⟨20, 5, [⟨-1, -1⟩, ⟨-1, 0⟩], [⟨⟨0, 0⟩, ⟨1, 20⟩, 1⟩]⟩
theorem loiled_j : Cr Try.prog 52 [] KTrue (fun q : (Option Addr × Nat) × Option Addr × Nat => .agg #[I oiledL.boards, I oiledL.rows, .slice q.1.1 oiledL.hooks.length q.1.2, .slice q.2.1 oiledL.patches.length q.2.2])
    (fun q => KLane oiledL q.1.1 q.1.2 q.2.1 q.2.2) := by
  refine Cx_of Try.func52 rfl Try.ntmps52 rfl fun w0 M0 => ?_
  refine JC_seq ?_
  refine JC_region ?_
  refine JL_step rfl rfl rfl (jo_alloc0 Try.zeroValue37 rfl) fun b0 => ?_
  refine JL_nil ?_
  refine JE_seq ?_
  refine JC_seq ?_
  refine JC_region ?_
  refine JL_step rfl rfl rfl (jo_callv rfl rfl Try.call54 rfl (lbetween_j _ _)) fun _ => ?_
  refine JL_step rfl rfl rfl (jo_callv rfl rfl Try.call54 rfl (lbetween_j _ _)) fun _ => ?_
  refine JL_step rfl rfl rfl (jo_buildSlice rfl (bsl_34_2_0_1 _ _ _ _)) fun b3 => ?_
  refine JL_step rfl rfl rfl (jo_callv rfl rfl Try.call54 rfl (lbetween_j _ _)) fun _ => ?_
  refine JL_step rfl rfl rfl (jo_callv rfl rfl Try.call54 rfl (lbetween_j _ _)) fun _ => ?_
  refine JL_pd rfl (det_build rfl (bld_116_0_1_2 _ _ _ _ _)) ?_
  refine JL_step rfl rfl rfl (jo_buildSlice rfl (bsl_35_1_0 _ _ _ _ _)) fun b7 => ?_
  refine JL_pd rfl (det_build rfl (bld_37_0_1_2_3 _ _ _ _ _ _ _ _)) ?_
  refine JL_step0 rfl rfl (jo_store rfl rfl rfl (by first | (simp only [splice_norm]; done) | (simp only [splice_norm]; rfl) | rfl) Try.sizeOf37 rfl rfl) fun _ => ?_
  refine JL_nil ?_
  refine JE_seq ?_
  refine JC_ret ?_
  -- stop: out
  refine JE_freeze (bx b3 [I (-1), I (-1), I (-1), I 0]) noFp ?_
  refine JE_freeze (bx b7 [I 0, I 0, I 1, I 20, I 1]) noFp ?_
  refine JE_out (.inl rfl) ((some ⟨b3, 0, none⟩, 2), some ⟨b7, 0, none⟩, 1) (results1 Try.results52 (res_box rfl Try.isAgg37 Try.sizeOf37 rfl)) rfl (List.Perm.refl _) (fun w h => ⟨KSl_of_box rfl rfl (by decide) h.2.1, KSl_of_box rfl rfl (by decide) h.1⟩)
set_option maxRecDepth 100000 in
theorem rHook_j (l : La) (row board : Int) (ha pa : Option Addr) (hc pc : Nat) (V : Valid l) : Cv Try.prog 37 [.agg #[I l.boards, I l.rows, .slice ha l.hooks.length hc, .slice pa l.patches.length pc], I row, I board] (KLane l ha hc pa pc) (.agg #[I (hookOf l row board).lo, I (hookOf l row board).hi]) := by
  have v1 := V.np
  have v2 := V.nh
  have v3 := V.h0
  have lv := levelOf_bd V row board
  refine Cx_of Try.func37 rfl Try.ntmps37 rfl fun w0 M0 => ?_
  refine JC_seq ?_
  refine JC_region ?_
  refine JL_step rfl rfl rfl (jo_box rfl rfl) fun b3 => ?_
  refine JL_step rfl rfl rfl (jo_alloc0 Try.zeroValue53 rfl) fun b6 => ?_
  refine JL_nil ?_
  refine JE_seq ?_
  refine JC_seq ?_
  refine JC_region ?_
  refine JL_pd rfl (det_assign rfl) ?_
  refine JL_nil ?_
  refine JE_seq ?_
  refine JC_seq ?_
  refine JC_seq ?_
  refine JC_region ?_
  refine JL_pd rfl (det_assign rfl) ?_
  refine JL_nil ?_
  refine JE_seq ?_
  refine JC_block ?_
  -- stop: loop
  refine JC_loop (γ := Nat) (I := fun i => i ≤ l.patches.length) (st' := fun i => [(8, I i), (7, I (levelOf (l.patches.take i) row board)), (6, pt b6), (3, pt b3), (2, I board), (1, I row)]) (H' := fun _ => [bx b6 [I 0, I 0], bx b3 [I l.boards, I l.rows, .slice ha l.hooks.length hc, .slice pa l.patches.length pc]])
    (R' := fun _ => KLane l ha hc pa pc) (μ := fun i => l.patches.length - i) 0 (by omega) (stsub_cons rfl (stsub_cons rfl (stsub_cons rfl (stsub_cons rfl (stsub_cons rfl (stsub_cons rfl stsub_nil)))))) (hsub_cons (hsub_cons hsub_nil)) Knows.know ?_
  intro i hi K hK
  refine JC_seq ?_
  refine JC_seq ?_
  refine JC_region ?_
  refine JL_pd rfl (det_move rfl) ?_
  refine JL_pd rfl (det_fieldAddr rfl fo_25_3) ?_
  refine JL_dt rfl (det_loadK rfl Try.isAgg23 rfl) ?_
  refine JL_pd rfl (det_len rfl Try.runUnderlying23) ?_
  refine JL_pd rfl (det_lss rfl rfl) ?_
  refine JL_nil ?_
  refine JE_seq ?_
  -- stop: cond
  refine JC_if rfl (fun h1 => ?_) (fun h1 => ?_)
  · refine JC_skip ?_
    refine JE_seq ?_
    refine JC_seq ?_
    refine JC_block ?_
    refine JC_seq ?_
    refine JC_region ?_
    refine JL_pd rfl (det_fieldAddr rfl fo_25_3) ?_
    refine JL_dt rfl (det_loadK rfl Try.isAgg23 rfl) ?_
    refine JL_pd rfl (det_move rfl) ?_
    refine JL_dt rfl (det_indexAddr rfl rfl (by first | rfl | omega) (by first | assumption | omega | decide) Try.runUnderlying23 Try.sizeOf89) ?_
    refine JL_dt rfl (det_loadEA rfl (by first | assumption | omega | decide) Try.isAgg89 Try.sizeOf89 rfl rfl rfl) ?_
    refine JL_step rfl rfl rfl (jo_alloc0 Try.zeroValue89 rfl) fun b9 => ?_
    refine JL_step0 rfl rfl (jo_store rfl rfl rfl (by first | (simp only [splice_norm]; done) | (simp only [splice_norm]; rfl) | rfl) Try.sizeOf89 rfl rfl) fun _ => ?_
    refine JL_nil ?_
    refine JE_seq ?_
    refine JC_seq ?_
    refine JC_region ?_
    refine JL_pd rfl (det_move rfl) ?_
    refine JL_pd rfl (det_fieldAddr rfl fo_89_0) ?_
    refine JL_pd rfl (det_fieldAddr rfl fo_53_0) ?_
    refine JL_dt rfl (det_loadK rfl Try.isAgg3 rfl) ?_
    refine JL_pd rfl (det_fieldAddr rfl fo_89_0) ?_
    refine JL_pd rfl (det_fieldAddr rfl fo_53_1) ?_
    refine JL_dt rfl (det_loadK rfl Try.isAgg3 rfl) ?_
    -- stop: op  7 t29 := (call (Call (value f22) (t22 t25 t28) (3 3 3)))   <0 3 6>   62
    have hi2 : i < l.patches.length := by omega
    have hsn := levelOf_snoc (l.patches.take i) l.patches[i] row board
    rw [← take_snoc hi2] at hsn
    refine JL_step rfl rfl rfl (jo_callv rfl rfl Try.call22 rfl (rIn_j row l.patches[i].rows.lo l.patches[i].rows.hi)) fun _ => ?_
    refine JL_pd rfl (det_move rfl) ?_
    -- stop: guard 8
    refine JL_split (d0 := 30) rfl (fun h2 => ?_) (fun h2 => ?_)
    · refine JL_guard rfl rfl h2 ?_
      refine JL_pd rfl (det_move rfl) ?_
      refine JL_guard rfl rfl h2 ?_
      refine JL_pd rfl (det_fieldAddr rfl fo_89_1) ?_
      refine JL_guard rfl rfl h2 ?_
      refine JL_pd rfl (det_fieldAddr rfl fo_53_0) ?_
      refine JL_guard rfl rfl h2 ?_
      refine JL_dt rfl (det_loadK rfl Try.isAgg3 rfl) ?_
      refine JL_guard rfl rfl h2 ?_
      refine JL_pd rfl (det_fieldAddr rfl fo_89_1) ?_
      refine JL_guard rfl rfl h2 ?_
      refine JL_pd rfl (det_fieldAddr rfl fo_53_1) ?_
      refine JL_guard rfl rfl h2 ?_
      refine JL_dt rfl (det_loadK rfl Try.isAgg3 rfl) ?_
      refine JL_guard rfl rfl h2 ?_
      -- stop: op 16 t38 := (call (Call (value f22) (t31 t34 t37) (3 3 3)))   <9 12 15 8 8>   62
      refine JL_step rfl rfl rfl (jo_callv rfl rfl Try.call22 rfl (rIn_j board l.patches[i].boards.lo l.patches[i].boards.hi)) fun _ => ?_
      refine JL_pd rfl (det_pick_t rfl h2 rfl) ?_
      refine JL_nil ?_
      refine JE_seq ?_
      -- stop: cond
      refine JC_cond rfl (fun h3 => ?_) (fun h3 => ?_)
      · refine JC_region ?_
        refine JL_pd rfl (det_fieldAddr rfl fo_89_2) ?_
        refine JL_dt rfl (det_loadK rfl Try.isAgg3 rfl) ?_
        refine JL_pd rfl (det_assign rfl) ?_
        refine JL_nil ?_
        refine JE_block ?_
        refine JE_seq ?_
        refine JC_region ?_
        refine JL_pd rfl (det_move rfl) ?_
        refine JL_pd rfl (det_add rfl rfl ⟨by omega, by omega⟩) ?_
        refine JL_pd rfl (det_assign rfl) ?_
        refine JL_nil ?_
        -- stop: end
        refine JE_round hK (i + 1) (by omega) (by omega) (stsub_consI rfl (by omega) (stsub_consI rfl (by rw [hsn, if_pos (by simp_all [inR])]) (stsub_cons rfl (stsub_cons rfl (stsub_cons rfl (stsub_cons rfl stsub_nil)))))) (hsub_cons (hsub_cons hsub_nil)) Knows.know
      · refine JC_skip ?_
        refine JE_block ?_
        refine JE_seq ?_
        refine JC_region ?_
        refine JL_pd rfl (det_move rfl) ?_
        refine JL_pd rfl (det_add rfl rfl ⟨by omega, by omega⟩) ?_
        refine JL_pd rfl (det_assign rfl) ?_
        refine JL_nil ?_
        -- stop: end
        refine JE_round hK (i + 1) (by omega) (by omega) (stsub_consI rfl (by omega) (stsub_consI rfl (by rw [hsn, if_neg (by simp_all [inR])]) (stsub_cons rfl (stsub_cons rfl (stsub_cons rfl (stsub_cons rfl stsub_nil)))))) (hsub_cons (hsub_cons hsub_nil)) Knows.know
    · refine JL_skip rfl rfl h2 rfl ?_
      refine JL_skip rfl rfl h2 rfl ?_
      refine JL_skip rfl rfl h2 rfl ?_
      refine JL_skip rfl rfl h2 rfl ?_
      refine JL_skip rfl rfl h2 rfl ?_
      refine JL_skip rfl rfl h2 rfl ?_
      refine JL_skip rfl rfl h2 rfl ?_
      refine JL_skip rfl rfl h2 rfl ?_
      refine JL_pd rfl (det_pick_f rfl h2 rfl) ?_
      refine JL_nil ?_
      refine JE_seq ?_
      -- stop: cond
      refine JC_cond rfl (fun h3 => ?_) (fun h3 => ?_)
      · refine JC_region ?_
        refine JL_pd rfl (det_fieldAddr rfl fo_89_2) ?_
        refine JL_dt rfl (det_loadK rfl Try.isAgg3 rfl) ?_
        refine JL_pd rfl (det_assign rfl) ?_
        refine JL_nil ?_
        refine JE_block ?_
        refine JE_seq ?_
        refine JC_region ?_
        refine JL_pd rfl (det_move rfl) ?_
        refine JL_pd rfl (det_add rfl rfl ⟨by omega, by omega⟩) ?_
        refine JL_pd rfl (det_assign rfl) ?_
        refine JL_nil ?_
        -- stop: end
        cases h3
      · refine JC_skip ?_
        refine JE_block ?_
        refine JE_seq ?_
        refine JC_region ?_
        refine JL_pd rfl (det_move rfl) ?_
        refine JL_pd rfl (det_add rfl rfl ⟨by omega, by omega⟩) ?_
        refine JL_pd rfl (det_assign rfl) ?_
        refine JL_nil ?_
        -- stop: end
        refine JE_round hK (i + 1) (by omega) (by omega) (stsub_consI rfl (by omega) (stsub_consI rfl (by rw [hsn, if_neg (by simp_all [inR]; grind)]) (stsub_cons rfl (stsub_cons rfl (stsub_cons rfl (stsub_cons rfl stsub_nil)))))) (hsub_cons (hsub_cons hsub_nil)) Knows.know
  · obtain ⟨n, hn⟩ : ∃ n : Nat, levelOf (l.patches.take i) row board = n := ⟨(levelOf (l.patches.take i) row board).toNat, by rw [List.take_of_length_le (by omega)]; omega⟩
    have e : l.patches.take i = l.patches := List.take_of_length_le (by omega)
    have hlv : n < l.hooks.length := by rw [e] at hn; omega
    rw [hn]
    refine JC_exit ?_
    refine JE_seq_exit ?_
    refine JE_then_exit ?_
    refine JE_block_here ?_
    refine JE_seq ?_
    refine JC_seq ?_
    refine JC_region ?_
    refine JL_pd rfl (det_fieldAddr rfl fo_25_2) ?_
    refine JL_dt rfl (det_loadK rfl Try.isAgg22 rfl) ?_
    refine JL_pd rfl (det_move rfl) ?_
    refine JL_dt rfl (det_indexAddr rfl rfl (by first | rfl | omega) (by first | assumption | omega | decide) Try.runUnderlying22 Try.sizeOf53) ?_
    refine JL_dt rfl (det_loadEA rfl (by first | assumption | omega | decide) Try.isAgg53 Try.sizeOf53 rfl rfl rfl) ?_
    refine JL_step0 rfl rfl (jo_store rfl rfl rfl (by first | (simp only [splice_norm]; done) | (simp only [splice_norm]; rfl) | rfl) Try.sizeOf53 rfl rfl) fun _ => ?_
    refine JL_nil ?_
    refine JE_seq ?_
    refine JC_ret ?_
    -- stop: out
    refine JE_out (.inl rfl) () (results1 Try.results37 (res_box rfl Try.isAgg53 Try.sizeOf53 rfl)) (by rw [show hookOf l row board = l.hooks[n] from by unfold hookOf; rw [← e, hn]; simp [List.getD_eq_getElem?_getD, hlv]]; rfl) (List.Perm.refl _) (fun _ _ => trivial)
end Go.Proofs.Ytcfhbnfincpehaa

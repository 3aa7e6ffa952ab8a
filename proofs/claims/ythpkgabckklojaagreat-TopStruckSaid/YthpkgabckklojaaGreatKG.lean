/- Rack: truths by words, racks and balls for the program; lists. -/
import Derived.Test.YthpkgabckklojaaGreatKF
import Derived.Test.YthpkgabckklojaaGreatSE
set_option linter.unusedSimpArgs false
set_option linter.unusedVariables false
namespace Go.Proofs.YthpkgabckklojaaGreat.Rk
open Go.RowKit Go.Shelf

theorem word_j (ws : List Int) (n : Nat) (a : Option Addr) (cap : Nat) (h : wordsOk ws) : Cv Tryz.prog 56 [.slice a ws.length cap, I n] (KSl a ws.length cap encU ws) (I (wordV ws n)) := by
  refine Cx_of Tryz.func56 rfl Tryz.ntmps56 rfl fun w0 M0 => ?_
  refine JC_seq ?_
  refine JC_region ?_
  refine JL_pd rfl (det_assign rfl) ?_
  refine JL_nil ?_
  refine JE_seq ?_
  refine JC_seq ?_
  refine JC_seq ?_
  refine JC_region ?_
  refine JL_pd rfl (det_move rfl) ?_
  refine JL_pd rfl (det_len rfl Tryz.runUnderlying32) ?_
  refine JL_pd rfl (det_eql rfl rfl) ?_
  refine JL_nil ?_
  refine JE_seq ?_
  -- stop: cond
  refine JC_if rfl (fun h1 => ?_) (fun h1 => ?_)
  · refine JC_seq ?_
    refine JC_region ?_
    refine JL_pd rfl (det_assign rfl) ?_
    refine JL_nil ?_
    refine JE_seq ?_
    refine JC_ret ?_
    refine JE_seq_ret ?_
    -- stop: out
    refine JE_out (.inl rfl) () (results1 Tryz.results56 (res_tmp rfl)) (by unfold wordV; rw [dif_neg (by omega)]) (List.Perm.refl _) (fun _ _ => trivial)
  · have hpos : 0 < ws.length := by omega
    have hlt : n % ws.length < ws.length := Nat.mod_lt _ hpos
    have hm : ((n : Int).tmod (ws.length : Int)) = ((n % ws.length : Nat) : Int) := by rw [Int.tmod_eq_emod_of_nonneg (by omega)]; rfl
    have hb := h _ (List.getElem_mem hlt)
    have e : wordV ws n = ws[n % ws.length] := by unfold wordV; rw [dif_pos hpos]
    refine JC_skip ?_
    refine JE_seq ?_
    refine JC_seq ?_
    refine JC_region ?_
    refine JL_pd rfl (det_move rfl) ?_
    refine JL_pd rfl (det_move rfl) ?_
    refine JL_pd rfl (det_move rfl) ?_
    refine JL_pd rfl (det_len rfl Tryz.runUnderlying32) ?_
    refine JL_pd rfl (det_rem rfl rfl (by omega)) ?_
    -- stop: op  5 t13 := (indexAddr 32 t8 t12)   <0 4>   43
    rw [hm]
    refine JL_dt rfl (det_indexAddr (i := n % ws.length) rfl rfl rfl hlt Tryz.runUnderlying32 Tryz.sizeOf133) ?_
    refine JL_dt rfl (det_loadE rfl (by first | assumption | omega | decide) Tryz.isAgg133 rfl rfl) ?_
    refine JL_pd rfl (det_convI rfl Tryz.runUnderlying133 Tryz.runUnderlying3 (i64_wrap ⟨by omega, by omega⟩)) ?_
    refine JL_pd rfl (det_assign rfl) ?_
    refine JL_nil ?_
    refine JE_seq ?_
    refine JC_ret ?_
    -- stop: out
    refine JE_out (.inl rfl) () (results1 Tryz.results56 (res_tmp rfl)) (by rw [e]) (List.Perm.refl _) (fun _ _ => trivial)
theorem Has_j (a : Option Addr) (c : Nat) (l : List Int) (n : Int) : Cv Tryz.prog 26 [.slice a l.length c, I n] (KSl a l.length c encN l) (.bool (decide (n ∈ l))) := by
  refine Cx_of Tryz.func26 rfl Tryz.ntmps26 rfl fun w0 M0 => ?_
  refine JC_seq ?_
  refine JC_region ?_
  refine JL_pd rfl (det_assign rfl) ?_
  refine JL_nil ?_
  refine JE_seq ?_
  refine JC_seq ?_
  refine JC_seq ?_
  refine JC_region ?_
  refine JL_pd rfl (det_assign rfl) ?_
  refine JL_nil ?_
  refine JE_seq ?_
  refine JC_block ?_
  -- stop: loop
  refine JC_pure (p := l.length ≤ 9223372036854775807) (by intro w h; exact h.1.bd) fun hz => ?_
  refine JC_loopF (γ := Nat) (fun i => i ≤ l.length ∧ n ∉ l.take i) (fun i => [(5, I i)]) (fun _ => []) (fun i => l.length - i) 0 ⟨Nat.zero_le _, by simp⟩ (stsub_consI rfl rfl stsub_nil) ht_nil ?_
  rintro i ⟨hi, hno⟩ K hK
  dsimp only [List.cons_append, List.nil_append]
  refine JC_seq ?_
  refine JC_seq ?_
  refine JC_region ?_
  refine JL_pd rfl (det_move rfl) ?_
  refine JL_pd rfl (det_move rfl) ?_
  refine JL_pd rfl (det_len rfl Tryz.runUnderlying31) ?_
  refine JL_pd rfl (det_lss rfl rfl) ?_
  refine JL_nil ?_
  refine JE_seq ?_
  -- stop: cond
  refine JC_if rfl (fun h1 => ?_) (fun h1 => ?_)
  · have hi2 : i < l.length := by omega
    refine JC_skip ?_
    refine JE_seq ?_
    refine JC_seq ?_
    refine JC_block ?_
    refine JC_seq ?_
    refine JC_region ?_
    refine JL_pd rfl (det_move rfl) ?_
    refine JL_pd rfl (det_move rfl) ?_
    refine JL_dt rfl (det_indexAddr rfl rfl (by first | rfl | omega) (by first | assumption | omega | decide) Tryz.runUnderlying31 Tryz.sizeOf3) ?_
    refine JL_dt rfl (det_loadE rfl (by first | assumption | omega | decide) Tryz.isAgg3 rfl rfl) ?_
    refine JL_pd rfl (det_move rfl) ?_
    refine JL_pd rfl (det_eql rfl rfl) ?_
    refine JL_nil ?_
    refine JE_seq ?_
    -- stop: cond
    refine JC_cond rfl (fun h2 => ?_) (fun h2 => ?_)
    · have := of_decide_eq_true h2
      refine JC_seq ?_
      refine JC_region ?_
      refine JL_pd rfl (det_assign rfl) ?_
      refine JL_nil ?_
      refine JE_seq ?_
      refine JC_ret ?_
      refine JE_block_ret ?_
      refine JE_seq_ret ?_
      refine JE_then_ret ?_
      refine JE_block_ret ?_
      refine JE_seq_ret ?_
      -- stop: out
      refine JE_out (.inl rfl) () (results1 Tryz.results26 (res_tmp rfl)) (by rw [decide_eq_true (this ▸ List.getElem_mem hi2)]) (List.Perm.refl _) (fun _ _ => trivial)
    · have := of_decide_eq_false h2
      refine JC_skip ?_
      refine JE_block ?_
      refine JE_seq ?_
      refine JC_region ?_
      refine JL_pd rfl (det_move rfl) ?_
      refine JL_pd rfl (det_add rfl rfl ⟨by omega, by omega⟩) ?_
      refine JL_pd rfl (det_assign rfl) ?_
      refine JL_nil ?_
      -- stop: end
      refine JE_roundF hK (i + 1) ⟨by omega, fun h => ?_⟩ (by omega) (stsub_consI rfl (by omega) stsub_nil) ht_nil
      rw [List.take_succ_eq_append_getElem hi2] at h
      rcases List.mem_append.1 h with h | h
      · exact hno h
      · exact this (List.mem_singleton.1 h).symm
  · obtain rfl : i = l.length := by omega
    rw [List.take_length] at hno
    refine JC_exit ?_
    refine JE_seq_exit ?_
    refine JE_then_exit ?_
    refine JE_block_here ?_
    refine JE_seq ?_
    refine JC_seq ?_
    refine JC_region ?_
    refine JL_pd rfl (det_assign rfl) ?_
    refine JL_nil ?_
    refine JE_seq ?_
    refine JC_ret ?_
    -- stop: out
    refine JE_out (.inl rfl) () (results1 Tryz.results26 (res_tmp rfl)) (by rw [decide_eq_false hno]) (List.Perm.refl _) (fun _ _ => trivial)
def leftL (ps fs : List Int) : List Int := ps.filter fun x => !decide (x ∈ fs)
set_option maxRecDepth 100000 in
theorem LeftR_j (a : Option Addr) (c : Nat) (ps : List Int) (fa : Option Addr) (fc : Nat) (fs : List Int) (hp : ps.length ≤ 1000) : Cr Tryz.prog 25 [.slice a ps.length c, .slice fa fs.length fc] (KAnd (KSl a ps.length c encN ps) (KSl fa fs.length fc encN fs)) (fun q : Option Addr × Nat => .slice q.1 (leftL ps fs).length q.2) (fun q => KSl q.1 (leftL ps fs).length q.2 encN (leftL ps fs)) := by
  refine Cx_of Tryz.func25 rfl Tryz.ntmps25 rfl fun w0 M0 => ?_
  refine JC_seq ?_
  refine JC_region ?_
  refine JL_pd rfl (det_assign rfl) ?_
  refine JL_nil ?_
  refine JE_seq ?_
  refine JC_seq ?_
  refine JC_region ?_
  refine JL_pd rfl (det_assign rfl) ?_
  refine JL_nil ?_
  refine JE_seq ?_
  refine JC_seq ?_
  refine JC_seq ?_
  refine JC_region ?_
  refine JL_pd rfl (det_assign rfl) ?_
  refine JL_nil ?_
  refine JE_seq ?_
  refine JC_block ?_
  -- stop: loop
  refine JC_nil 3 1 ?_
  refine JC_loopF (γ := Nat × Value) (fun q => q.1 ≤ ps.length) (fun q => [(6, I q.1), (5, q.2)]) (fun q => [ow q.2 3 1 (leftL (ps.take q.1) fs).length ((leftL (ps.take q.1) fs).flatMap encN)]) (fun q => ps.length - q.1) (0, .slice none 0 0) (Nat.zero_le _) (stsub_consI rfl rfl (stsub_cons rfl stsub_nil)) (ht_ow rfl rfl ht_nil) ?_
  rintro ⟨i, v⟩ hi K hK
  dsimp only [List.cons_append, List.nil_append] at hi ⊢
  refine JC_seq ?_
  refine JC_seq ?_
  refine JC_region ?_
  refine JL_pd rfl (det_move rfl) ?_
  refine JL_pd rfl (det_move rfl) ?_
  refine JL_pd rfl (det_len rfl Tryz.runUnderlying31) ?_
  refine JL_pd rfl (det_lss rfl rfl) ?_
  refine JL_nil ?_
  refine JE_seq ?_
  -- stop: cond
  refine JC_if rfl (fun h1 => ?_) (fun h1 => ?_)
  · have hi2 : i < ps.length := by omega
    have hfl := List.length_filter_le (fun x => !decide (x ∈ fs)) (ps.take i)
    have hfl2 : (leftL (ps.take i) fs).length ≤ ps.length := by
      unfold leftL
      rw [List.length_take] at hfl; omega
    refine JC_skip ?_
    refine JE_seq ?_
    refine JC_seq ?_
    refine JC_block ?_
    refine JC_seq ?_
    refine JC_region ?_
    refine JL_pd rfl (det_move rfl) ?_
    refine JL_pd rfl (det_move rfl) ?_
    refine JL_pd rfl (det_move rfl) ?_
    refine JL_dt rfl (det_indexAddr rfl rfl (by first | rfl | omega) (by first | assumption | omega | decide) Tryz.runUnderlying31 Tryz.sizeOf3) ?_
    refine JL_dt rfl (det_loadE rfl (by first | assumption | omega | decide) Tryz.isAgg3 rfl rfl) ?_
    refine JL_step rfl rfl rfl (jo_callv rfl rfl Tryz.call26 rfl (Has_j fa fc fs ps[i])) fun _ => ?_
    refine JL_pd rfl (det_not rfl) ?_
    refine JL_nil ?_
    refine JE_seq ?_
    -- stop: cond
    refine JC_cond rfl (fun h2 => ?_) (fun h2 => ?_)
    · have e : leftL (ps.take (i + 1)) fs = leftL (ps.take i) fs ++ [ps[i]] := by
        unfold leftL
        rw [List.take_succ_eq_append_getElem hi2, List.filter_append, List.filter_cons_of_pos (p := fun x => !decide (x ∈ fs)) h2, List.filter_nil]
      refine JC_region ?_
      refine JL_pd rfl (det_move rfl) ?_
      refine JL_pd rfl (det_move rfl) ?_
      refine JL_pd rfl (det_move rfl) ?_
      refine JL_dt rfl (det_indexAddr rfl rfl (by first | rfl | omega) (by first | assumption | omega | decide) Tryz.runUnderlying31 Tryz.sizeOf3) ?_
      refine JL_dt rfl (det_loadE rfl (by first | assumption | omega | decide) Tryz.isAgg3 rfl rfl) ?_
      refine JL_step rfl rfl rfl (jo_buildSlice rfl (bsl_31_1_0 _)) fun b25 => ?_
      refine JL_step rfl rfl rfl (jo_append el_31 rfl rfl rfl rfl (by omega)) fun b26 => ?_
      refine JL_pd rfl (det_assign rfl) ?_
      refine JL_nil ?_
      refine JE_block ?_
      refine JE_seq ?_
      refine JC_region ?_
      refine JL_pd rfl (det_move rfl) ?_
      refine JL_pd rfl (det_add rfl rfl ⟨by omega, by omega⟩) ?_
      refine JL_pd rfl (det_assign rfl) ?_
      refine JL_nil ?_
      -- stop: end
      refine JE_roundF hK (i + 1, .slice (some ⟨b26.1, 0, none⟩) ((leftL (ps.take i) fs).length + 1) b26.2) (by simp only; omega) (by simp only; omega) (stsub_consI rfl (by simp only; omega) (stsub_cons rfl stsub_nil)) (ht_ow (by simp only; rw [e]; simp) (by simp only; rw [e, List.flatMap_append]; rfl) ht_nil)
    · have e : leftL (ps.take (i + 1)) fs = leftL (ps.take i) fs := by
        unfold leftL
        rw [List.take_succ_eq_append_getElem hi2, List.filter_append, List.filter_cons_of_neg (p := fun x => !decide (x ∈ fs)) (by rw [h2]; decide), List.filter_nil, List.append_nil]
      refine JC_skip ?_
      refine JE_block ?_
      refine JE_seq ?_
      refine JC_region ?_
      refine JL_pd rfl (det_move rfl) ?_
      refine JL_pd rfl (det_add rfl rfl ⟨by omega, by omega⟩) ?_
      refine JL_pd rfl (det_assign rfl) ?_
      refine JL_nil ?_
      -- stop: end
      refine JE_roundF hK (i + 1, v) (by simp only; omega) (by simp only; omega) (stsub_consI rfl (by simp only; omega) (stsub_cons rfl stsub_nil)) (ht_ow (by simp only; rw [e]) (by simp only; rw [e]) ht_nil)
  · obtain rfl : i = ps.length := by omega
    rw [List.take_length]
    refine JC_slice (enc := encN) (v := v) (leftL ps fs) noFp rfl rfl ?_
    rintro av cv rfl
    refine JC_exit ?_
    refine JE_seq_exit ?_
    refine JE_then_exit ?_
    refine JE_block_here ?_
    refine JE_seq ?_
    refine JC_seq ?_
    refine JC_region ?_
    refine JL_pd rfl (det_move rfl) ?_
    refine JL_pd rfl (det_assign rfl) ?_
    refine JL_nil ?_
    refine JE_seq ?_
    refine JC_ret ?_
    -- stop: out
    refine JE_out (.inl rfl) (av, cv) (results1 Tryz.results25 (res_tmp rfl)) rfl (List.Perm.refl _) (fun w h => h.1)
set_option maxRecDepth 100000 in
theorem Ball_j (a : Option Addr) (c : Nat) (ball : List Rg) (hl : ball.length ≤ 1000) : Cr Tryz.prog 21 [.slice a ball.length c] (KSl a ball.length c encRg ball) (fun q : Option Addr × Nat => .slice q.1 ball.length q.2) (fun q => KSl q.1 ball.length q.2 encRg ball) := by
  refine Cx_of Tryz.func21 rfl Tryz.ntmps21 rfl fun w0 M0 => ?_
  refine JC_seq ?_
  refine JC_region ?_
  refine JL_pd rfl (det_assign rfl) ?_
  refine JL_nil ?_
  refine JE_seq ?_
  refine JC_seq ?_
  refine JC_region ?_
  refine JL_pd rfl (det_assign rfl) ?_
  refine JL_nil ?_
  refine JE_seq ?_
  refine JC_seq ?_
  refine JC_seq ?_
  refine JC_region ?_
  refine JL_pd rfl (det_assign rfl) ?_
  refine JL_nil ?_
  refine JE_seq ?_
  refine JC_block ?_
  -- stop: loop
  refine JC_nil 71 2 ?_
  refine JC_loopF (γ := Nat × Value) (fun q => q.1 ≤ ball.length) (fun q => [(4, I q.1), (3, q.2)]) (fun q => [ow q.2 71 2 q.1 ((ball.take q.1).flatMap encRg)]) (fun q => ball.length - q.1) (0, .slice none 0 0) (Nat.zero_le _) (stsub_consI rfl rfl (stsub_cons rfl stsub_nil)) (ht_ow rfl rfl ht_nil) ?_
  rintro ⟨i, v⟩ hi K hK
  dsimp only [List.cons_append, List.nil_append] at hi ⊢
  refine JC_seq ?_
  refine JC_seq ?_
  refine JC_region ?_
  refine JL_pd rfl (det_move rfl) ?_
  refine JL_pd rfl (det_move rfl) ?_
  refine JL_pd rfl (det_len rfl Tryz.runUnderlying52) ?_
  refine JL_pd rfl (det_lss rfl rfl) ?_
  refine JL_nil ?_
  refine JE_seq ?_
  -- stop: cond
  refine JC_if rfl (fun h1 => ?_) (fun h1 => ?_)
  · have hi2 : i < ball.length := by omega
    refine JC_skip ?_
    refine JE_seq ?_
    refine JC_seq ?_
    refine JC_block ?_
    refine JC_draw [13] (by kernel_rfl) ?_
    refine JA_pd (i := 0) rfl (by kernel_rfl) rfl rfl (det_move rfl) ?_
    refine JA_pd (i := 1) rfl (by kernel_rfl) rfl rfl (det_move rfl) ?_
    refine JA_pd (i := 2) rfl (by kernel_rfl) rfl rfl (det_move rfl) ?_
    refine JA_dt (i := 3) rfl (by kernel_rfl) (by kernel_rfl) rfl rfl (det_indexAddr rfl rfl (by first | rfl | omega) (by first | assumption | omega | decide) Tryz.runUnderlying52 Tryz.sizeOf56) ?_
    refine JA_pd (i := 4) rfl (by kernel_rfl) rfl rfl (det_fieldAddrE rfl fo_56_0) ?_
    refine JA_dt (i := 5) rfl (by kernel_rfl) (by kernel_rfl) rfl rfl (det_loadEk rfl (by first | assumption | omega | decide) Tryz.isAgg3 rfl rfl) ?_
    refine JA_pd (i := 6) rfl (by kernel_rfl) rfl rfl (det_move rfl) ?_
    refine JA_pd (i := 7) rfl (by kernel_rfl) rfl rfl (det_move rfl) ?_
    refine JA_dt (i := 8) rfl (by kernel_rfl) (by kernel_rfl) rfl rfl (det_indexAddr rfl rfl (by first | rfl | omega) (by first | assumption | omega | decide) Tryz.runUnderlying52 Tryz.sizeOf56) ?_
    refine JA_pd (i := 9) rfl (by kernel_rfl) rfl rfl (det_fieldAddrE rfl fo_56_1) ?_
    refine JA_dt (i := 10) rfl (by kernel_rfl) (by kernel_rfl) rfl rfl (det_loadEk rfl (by first | assumption | omega | decide) Tryz.isAgg3 rfl rfl) ?_
    refine JA_pd (i := 11) rfl (by kernel_rfl) rfl rfl (det_build rfl (bld_71_0_1 _ _)) ?_
    refine JA_one (i := 12) (by kernel_rfl) rfl rfl (jo_buildSlice rfl (bsl_67_1_0 _ _)) (fun _ => ⟨hsub_drop 1 rfl, fun _ h => h⟩) fun b23 => ?_
    refine JA_tail (i := 13) (by kernel_rfl) rfl rfl rfl rfl (jo_append el_67 rfl rfl rfl rfl (by omega)) fun b24 => ?_
    refine JT_pd (i := 14) rfl (by kernel_rfl) rfl rfl (det_assign rfl) ?_
    refine JT_done (by kernel_rfl) ?_
    refine JE_block ?_
    refine JE_seq ?_
    refine JC_region ?_
    refine JL_pd rfl (det_move rfl) ?_
    refine JL_pd rfl (det_add rfl rfl ⟨by omega, by omega⟩) ?_
    refine JL_pd rfl (det_assign rfl) ?_
    refine JL_nil ?_
    -- stop: end
    refine JE_roundF hK (i + 1, .slice (some ⟨b24.1, 0, none⟩) (i + 1) b24.2) (by simp only; omega) (by simp only; omega) (stsub_consI rfl (by simp only; omega) (stsub_cons rfl stsub_nil)) (ht_ow rfl (by simp only; rw [List.take_succ_eq_append_getElem hi2, List.flatMap_append, List.flatMap_cons, List.flatMap_nil, List.append_nil]; rfl) ht_nil)
  · obtain rfl : i = ball.length := by omega
    rw [List.take_length]
    refine JC_slice (enc := encRg) (v := v) ball noFp rfl rfl ?_
    rintro av cv rfl
    refine JC_exit ?_
    refine JE_seq_exit ?_
    refine JE_then_exit ?_
    refine JE_block_here ?_
    refine JE_seq ?_
    refine JC_seq ?_
    refine JC_region ?_
    refine JL_pd rfl (det_move rfl) ?_
    refine JL_pd rfl (det_assign rfl) ?_
    refine JL_nil ?_
    refine JE_seq ?_
    refine JC_ret ?_
    -- stop: out
    refine JE_out (.inl rfl) (av, cv) (results1 Tryz.results21 (res_tmp rfl)) rfl (List.Perm.refl _) (fun w h => h.1)
set_option maxRecDepth 100000 in
set_option maxHeartbeats 1000000 in
theorem Rack_j (r : Rk) (a : Option Addr) (c : Nat) (hl : r.ls.length ≤ 1000) : Cr Tryz.prog 20 [vRk r a c] (KRk r a c) (fun q : Option Addr × Nat => vRk r q.1 q.2) (fun q => KRk r q.1 q.2) := by
  refine Cx_of Tryz.func20 rfl Tryz.ntmps20 rfl fun w0 M0 => ?_
  refine JC_seq ?_
  refine JC_region ?_
  refine JL_step rfl rfl rfl (jo_box rfl rfl) fun b1 => ?_
  refine JL_step rfl rfl rfl (jo_alloc0 Tryz.zeroValue65 rfl) fun b2 => ?_
  refine JL_nil ?_
  refine JE_seq ?_
  refine JC_seq ?_
  refine JC_region ?_
  refine JL_pd rfl (det_fieldAddr rfl fo_30_0) ?_
  refine JL_dt rfl (det_loadK rfl Tryz.isAgg3 rfl) ?_
  refine JL_pd rfl (det_fieldAddr rfl fo_30_1) ?_
  refine JL_dt rfl (det_loadK rfl Tryz.isAgg3 rfl) ?_
  refine JL_pd rfl (det_fieldAddr rfl fo_30_2) ?_
  refine JL_dt rfl (det_loadK rfl Tryz.isAgg3 rfl) ?_
  refine JL_pd rfl (det_fieldAddr rfl fo_30_3) ?_
  refine JL_dt rfl (det_loadK rfl Tryz.isAgg3 rfl) ?_
  refine JL_pd rfl (det_build rfl (bld_65_0_1_2_3 _ _ _ _)) ?_
  refine JL_step rfl rfl rfl (jo_alloc0 Tryz.zeroValue65 rfl) fun b3 => ?_
  refine JL_step0 rfl rfl (jo_store rfl rfl rfl (by first | (simp only [splice_norm]; done) | (simp only [splice_norm]; rfl) | rfl) Tryz.sizeOf65 rfl rfl) fun _ => ?_
  refine JL_nil ?_
  refine JE_seq ?_
  refine JC_seq ?_
  refine JC_seq ?_
  refine JC_region ?_
  refine JL_pd rfl (det_assign rfl) ?_
  refine JL_nil ?_
  refine JE_seq ?_
  refine JC_block ?_
  -- stop: loop
  refine JC_nil 141 3 ?_
  refine JC_loopF (γ := Nat × Value) (fun q => q.1 ≤ r.ls.length) (fun q => [(4, I q.1)]) (fun q => [ow q.2 141 3 q.1 ((r.ls.take q.1).flatMap encLk), bx b3 [I r.rows, I r.mid, I r.gap, I r.rch, q.2]]) (fun q => r.ls.length - q.1) (0, .slice none 0 0) (Nat.zero_le _) (stsub_consI rfl rfl stsub_nil) (ht_ow rfl rfl (ht_bx rfl ht_nil)) ?_
  rintro ⟨i, v⟩ hi K hK
  dsimp only [List.cons_append, List.nil_append] at hi ⊢
  refine JC_seq ?_
  refine JC_seq ?_
  refine JC_region ?_
  refine JL_pd rfl (det_move rfl) ?_
  refine JL_pd rfl (det_fieldAddr rfl fo_30_4) ?_
  refine JL_dt rfl (det_loadK rfl Tryz.isAgg28 rfl) ?_
  refine JL_pd rfl (det_len rfl Tryz.runUnderlying28) ?_
  refine JL_pd rfl (det_lss rfl rfl) ?_
  refine JL_nil ?_
  refine JE_seq ?_
  -- stop: cond
  refine JC_if rfl (fun h1 => ?_) (fun h1 => ?_)
  · have hi2 : i < r.ls.length := by omega
    refine JC_skip ?_
    refine JE_seq ?_
    refine JC_seq ?_
    refine JC_block ?_
    refine JC_draw [22, 24] (by kernel_rfl) ?_
    refine JA_pd (i := 0) rfl (by kernel_rfl) rfl rfl (det_fieldAddr rfl fo_65_4) ?_
    refine JA_dt (i := 1) rfl (by kernel_rfl) (by kernel_rfl) rfl rfl (det_loadK rfl Tryz.isAgg63 rfl) ?_
    refine JA_pd (i := 2) rfl (by kernel_rfl) rfl rfl (det_fieldAddr rfl fo_30_4) ?_
    refine JA_dt (i := 3) rfl (by kernel_rfl) (by kernel_rfl) rfl rfl (det_loadK rfl Tryz.isAgg28 rfl) ?_
    refine JA_pd (i := 4) rfl (by kernel_rfl) rfl rfl (det_move rfl) ?_
    refine JA_dt (i := 5) rfl (by kernel_rfl) (by kernel_rfl) rfl rfl (det_indexAddr rfl rfl (by first | rfl | omega) (by first | assumption | omega | decide) Tryz.runUnderlying28 Tryz.sizeOf111) ?_
    refine JA_pd (i := 6) rfl (by kernel_rfl) rfl rfl (det_fieldAddrE rfl fo_111_0) ?_
    refine JA_dt (i := 7) rfl (by kernel_rfl) (by kernel_rfl) rfl rfl (det_loadEk rfl (by first | assumption | omega | decide) Tryz.isAgg3 rfl rfl) ?_
    refine JA_pd (i := 8) rfl (by kernel_rfl) rfl rfl (det_fieldAddr rfl fo_30_4) ?_
    refine JA_dt (i := 9) rfl (by kernel_rfl) (by kernel_rfl) rfl rfl (det_loadK rfl Tryz.isAgg28 rfl) ?_
    refine JA_pd (i := 10) rfl (by kernel_rfl) rfl rfl (det_move rfl) ?_
    refine JA_dt (i := 11) rfl (by kernel_rfl) (by kernel_rfl) rfl rfl (det_indexAddr rfl rfl (by first | rfl | omega) (by first | assumption | omega | decide) Tryz.runUnderlying28 Tryz.sizeOf111) ?_
    refine JA_pd (i := 12) rfl (by kernel_rfl) rfl rfl (det_fieldAddrE rfl fo_111_1) ?_
    refine JA_dt (i := 13) rfl (by kernel_rfl) (by kernel_rfl) rfl rfl (det_loadEk rfl (by first | assumption | omega | decide) Tryz.isAgg3 rfl rfl) ?_
    refine JA_pd (i := 14) rfl (by kernel_rfl) rfl rfl (det_fieldAddr rfl fo_30_4) ?_
    refine JA_dt (i := 15) rfl (by kernel_rfl) (by kernel_rfl) rfl rfl (det_loadK rfl Tryz.isAgg28 rfl) ?_
    refine JA_pd (i := 16) rfl (by kernel_rfl) rfl rfl (det_move rfl) ?_
    refine JA_dt (i := 17) rfl (by kernel_rfl) (by kernel_rfl) rfl rfl (det_indexAddr rfl rfl (by first | rfl | omega) (by first | assumption | omega | decide) Tryz.runUnderlying28 Tryz.sizeOf111) ?_
    refine JA_pd (i := 18) rfl (by kernel_rfl) rfl rfl (det_fieldAddrE rfl fo_111_2) ?_
    refine JA_dt (i := 19) rfl (by kernel_rfl) (by kernel_rfl) rfl rfl (det_loadEk rfl (by first | assumption | omega | decide) Tryz.isAgg4 rfl rfl) ?_
    refine JA_pd (i := 20) rfl (by kernel_rfl) rfl rfl (det_build rfl (bld_141_0_1_2 _ _ _)) ?_
    refine JA_one (i := 21) (by kernel_rfl) rfl rfl (jo_buildSlice rfl (bsl_63_1_0 _ _ _)) (fun _ => ⟨hsub_drop 1 rfl, fun _ h => h⟩) fun b42 => ?_
    refine JA_tail (i := 22) (by kernel_rfl) rfl rfl rfl rfl (jo_append el_63 rfl rfl rfl rfl (by omega)) fun b43 => ?_
    refine JT_pd (i := 23) rfl (by kernel_rfl) rfl rfl (det_fieldAddr rfl fo_65_4) ?_
    refine JT_one (i := 24) (by kernel_rfl) rfl rfl (jo_store rfl rfl rfl (by first | (simp only [splice_norm]; done) | (simp only [splice_norm]; rfl) | rfl) Tryz.sizeOf63 rfl rfl) fun _ => ?_
    refine JT_done (by kernel_rfl) ?_
    refine JE_block ?_
    refine JE_seq ?_
    refine JC_region ?_
    refine JL_pd rfl (det_move rfl) ?_
    refine JL_pd rfl (det_add rfl rfl ⟨by omega, by omega⟩) ?_
    refine JL_pd rfl (det_assign rfl) ?_
    refine JL_nil ?_
    -- stop: end
    refine JE_roundF hK (i + 1, .slice (some ⟨b43.1, 0, none⟩) (i + 1) b43.2) (by simp only; omega) (by simp only; omega) (stsub_consI rfl (by simp only; omega) stsub_nil) (ht_ow rfl (by simp only; rw [List.take_succ_eq_append_getElem hi2, List.flatMap_append, List.flatMap_cons, List.flatMap_nil, List.append_nil]; rfl) (ht_bx rfl ht_nil))
  · obtain rfl : i = r.ls.length := by omega
    rw [List.take_length]
    refine JC_slice (enc := encLk) (v := v) r.ls noFp rfl rfl ?_
    rintro av cv rfl
    refine JC_exit ?_
    refine JE_seq_exit ?_
    refine JE_then_exit ?_
    refine JE_block_here ?_
    refine JE_seq ?_
    refine JC_seq ?_
    refine JC_region ?_
    refine JL_dt rfl (det_loadKA rfl Tryz.isAgg65 Tryz.sizeOf65 rfl rfl) ?_
    refine JL_step0 rfl rfl (jo_store rfl rfl rfl (by first | (simp only [splice_norm]; done) | (simp only [splice_norm]; rfl) | rfl) Tryz.sizeOf65 rfl rfl) fun _ => ?_
    refine JL_nil ?_
    refine JE_seq ?_
    refine JC_ret ?_
    -- stop: out
    refine JE_out (.inl rfl) (av, cv) (results1 Tryz.results20 (res_box rfl Tryz.isAgg65 Tryz.sizeOf65 rfl)) rfl (List.Perm.refl _) (fun w h => h.1)
def CarOk (r : Rk) (cs : List Bool) : Prop := cs.length = r.ls.length ∧ ∀ (k : Nat) (l : Lk), r.ls[k]? = some l → l.s = true → cs[k]? = some true
abbrev PickQ (r : Rk) := (Option Addr × Nat × List Int) × (Option Addr × Nat × { cs : List Bool // CarOk r cs })
set_option maxRecDepth 100000 in
set_option maxHeartbeats 1000000 in
theorem Picked_j (r : Rk) (a : Option Addr) (c : Nat) (hl : r.ls.length ≤ 1000) (ba : Option Addr) (bc : Nat) (ball : List Rg) (hB : VB r ball) (hbl : ball.length ≤ 1000) (wa : Option Addr) (wc : Nat) (ws : List Int) (hw : wordsOk ws) : Cr Tryz.prog 18 [vRk r a c, .slice ba ball.length bc, .slice wa ws.length wc] (KAnd (KRk r a c) (KAnd (KSl ba ball.length bc encRg ball) (KSl wa ws.length wc encU ws)))
    (fun q : PickQ r => .tuple #[.slice q.1.1 q.1.2.2.length q.1.2.1, .slice q.2.1 q.2.2.2.1.length q.2.2.1]) (fun q => KSl q.2.1 q.2.2.2.1.length q.2.2.1 encQ q.2.2.2.1) := by
  refine Cx_of Tryz.func18 rfl Tryz.ntmps18 rfl fun w0 M0 => ?_
  refine JC_seq ?_
  refine JC_region ?_
  refine JL_step rfl rfl rfl (jo_box rfl rfl) fun b3 => ?_
  refine JL_pd rfl (det_assign rfl) ?_
  refine JL_pd rfl (det_assign rfl) ?_
  refine JL_nil ?_
  refine JE_seq ?_
  refine JC_seq ?_
  refine JC_region ?_
  refine JL_pd rfl (det_assign rfl) ?_
  refine JL_nil ?_
  refine JE_seq ?_
  refine JC_seq ?_
  refine JC_region ?_
  refine JL_pd rfl (det_assign rfl) ?_
  refine JL_nil ?_
  refine JE_seq ?_
  refine JC_seq ?_
  refine JC_seq ?_
  refine JC_region ?_
  refine JL_pd rfl (det_assign rfl) ?_
  refine JL_nil ?_
  refine JE_seq ?_
  refine JC_block ?_
  -- stop: loop
  refine JC_nil 3 1 ?_
  refine JC_loopF (γ := Nat × Value × List Int) (fun q => q.1 ≤ ball.length ∧ q.2.2.length = q.1) (fun q => [(10, I q.1), (8, q.2.1)]) (fun q => [ow q.2.1 3 1 q.2.2.length (q.2.2.flatMap encN)]) (fun q => ball.length - q.1) (0, .slice none 0 0, []) ⟨Nat.zero_le _, rfl⟩ (stsub_consI rfl rfl (stsub_cons rfl stsub_nil)) (ht_ow rfl rfl ht_nil) ?_
  rintro ⟨i, v, ns⟩ ⟨hi, hnl⟩ K hK
  dsimp only [List.cons_append, List.nil_append] at hi hnl ⊢
  refine JC_seq ?_
  refine JC_seq ?_
  refine JC_region ?_
  refine JL_pd rfl (det_move rfl) ?_
  refine JL_pd rfl (det_move rfl) ?_
  refine JL_pd rfl (det_len rfl Tryz.runUnderlying52) ?_
  refine JL_pd rfl (det_lss rfl rfl) ?_
  refine JL_nil ?_
  refine JE_seq ?_
  -- stop: cond
  refine JC_if rfl (fun h1 => ?_) (fun h1 => ?_)
  · have hi2 : i < ball.length := by omega
    have hb := bOk_iff.1 (hB.b _ (List.getElem_mem hi2))
    have hwb := wordV_bd hw i
    have hm0 : 0 ≤ (wordV ws i).tmod (ball[i].hi - ball[i].lo + 1) ∧ (wordV ws i).tmod (ball[i].hi - ball[i].lo + 1) ≤ 65535 := by
      rw [Int.tmod_eq_emod_of_nonneg hwb.1]
      have h1 := Int.emod_nonneg (wordV ws i) (show ball[i].hi - ball[i].lo + 1 ≠ 0 by omega)
      have h2 := Int.emod_lt_of_pos (wordV ws i) (show 0 < ball[i].hi - ball[i].lo + 1 by omega)
      omega
    refine JC_skip ?_
    refine JE_seq ?_
    refine JC_seq ?_
    refine JC_block ?_
    refine JC_draw [24] (by kernel_rfl) ?_
    refine JA_pd (i := 0) rfl (by kernel_rfl) rfl rfl (det_move rfl) ?_
    refine JA_pd (i := 1) rfl (by kernel_rfl) rfl rfl (det_move rfl) ?_
    refine JA_pd (i := 2) rfl (by kernel_rfl) rfl rfl (det_move rfl) ?_
    refine JA_dt (i := 3) rfl (by kernel_rfl) (by kernel_rfl) rfl rfl (det_indexAddr rfl rfl (by first | rfl | omega) (by first | assumption | omega | decide) Tryz.runUnderlying52 Tryz.sizeOf56) ?_
    refine JA_pd (i := 4) rfl (by kernel_rfl) rfl rfl (det_fieldAddrE rfl fo_56_0) ?_
    refine JA_dt (i := 5) rfl (by kernel_rfl) (by kernel_rfl) rfl rfl (det_loadEk rfl (by first | assumption | omega | decide) Tryz.isAgg3 rfl rfl) ?_
    refine JA_pd (i := 6) rfl (by kernel_rfl) rfl rfl (det_move rfl) ?_
    refine JA_pd (i := 7) rfl (by kernel_rfl) rfl rfl (det_move rfl) ?_
    refine JA_pd (i := 9) rfl (by kernel_rfl) rfl rfl (det_move rfl) ?_
    refine JA_pd (i := 10) rfl (by kernel_rfl) rfl rfl (det_move rfl) ?_
    refine JA_dt (i := 11) rfl (by kernel_rfl) (by kernel_rfl) rfl rfl (det_indexAddr rfl rfl (by first | rfl | omega) (by first | assumption | omega | decide) Tryz.runUnderlying52 Tryz.sizeOf56) ?_
    refine JA_pd (i := 12) rfl (by kernel_rfl) rfl rfl (det_fieldAddrE rfl fo_56_1) ?_
    refine JA_dt (i := 13) rfl (by kernel_rfl) (by kernel_rfl) rfl rfl (det_loadEk rfl (by first | assumption | omega | decide) Tryz.isAgg3 rfl rfl) ?_
    refine JA_pd (i := 14) rfl (by kernel_rfl) rfl rfl (det_move rfl) ?_
    refine JA_pd (i := 15) rfl (by kernel_rfl) rfl rfl (det_move rfl) ?_
    refine JA_dt (i := 16) rfl (by kernel_rfl) (by kernel_rfl) rfl rfl (det_indexAddr rfl rfl (by first | rfl | omega) (by first | assumption | omega | decide) Tryz.runUnderlying52 Tryz.sizeOf56) ?_
    refine JA_pd (i := 17) rfl (by kernel_rfl) rfl rfl (det_fieldAddrE rfl fo_56_0) ?_
    refine JA_dt (i := 18) rfl (by kernel_rfl) (by kernel_rfl) rfl rfl (det_loadEk rfl (by first | assumption | omega | decide) Tryz.isAgg3 rfl rfl) ?_
    refine JA_pd (i := 19) rfl (by kernel_rfl) rfl rfl (det_sub rfl rfl ⟨by omega, by omega⟩) ?_
    refine JA_pd (i := 20) rfl (by kernel_rfl) rfl rfl (det_add rfl rfl ⟨by omega, by omega⟩) ?_
    refine JA_one (i := 8) (by kernel_rfl) rfl rfl (jo_callv rfl rfl Tryz.call56 rfl (word_j ws i wa wc hw)) (fun _ => ⟨hsub_refl, fun _ h => h⟩) fun _ => ?_
    refine JA_pd (i := 21) rfl (by kernel_rfl) rfl rfl (det_rem rfl rfl (by omega)) ?_
    refine JA_pd (i := 22) rfl (by kernel_rfl) rfl rfl (det_add rfl rfl ⟨by omega, by omega⟩) ?_
    refine JA_one (i := 23) (by kernel_rfl) rfl rfl (jo_buildSlice rfl (bsl_31_1_0 _)) (fun _ => ⟨hsub_drop 1 rfl, fun _ h => h⟩) fun b41 => ?_
    refine JA_tail (i := 24) (by kernel_rfl) rfl rfl rfl rfl (jo_append el_31 rfl rfl rfl rfl (by omega)) fun b42 => ?_
    refine JT_pd (i := 25) rfl (by kernel_rfl) rfl rfl (det_assign rfl) ?_
    refine JT_done (by kernel_rfl) ?_
    refine JE_block ?_
    refine JE_seq ?_
    refine JC_region ?_
    refine JL_pd rfl (det_move rfl) ?_
    refine JL_pd rfl (det_add rfl rfl ⟨by omega, by omega⟩) ?_
    refine JL_pd rfl (det_assign rfl) ?_
    refine JL_nil ?_
    -- stop: end
    refine JE_roundF hK (i + 1, .slice (some ⟨b42.1, 0, none⟩) (ns.length + 1) b42.2, ns ++ [ball[i].lo + (wordV ws i).tmod (ball[i].hi - ball[i].lo + 1)]) ⟨by simp only; omega, by simp only [List.length_append, List.length_singleton]; omega⟩ (by simp only; omega) (stsub_consI rfl (by simp only; omega) (stsub_cons rfl stsub_nil)) (ht_ow (by simp) (by rw [List.flatMap_append]; rfl) ht_nil)
  · obtain rfl : i = ball.length := by omega
    refine JC_slice (enc := encN) (v := v) ns noFp rfl rfl ?_
    rintro pa pc rfl
    refine JC_exit ?_
    refine JE_seq_exit ?_
    refine JE_then_exit ?_
    refine JE_block_here ?_
    refine JE_seq ?_
    refine JC_seq ?_
    refine JC_seq ?_
    refine JC_region ?_
    refine JL_pd rfl (det_assign rfl) ?_
    refine JL_nil ?_
    refine JE_seq ?_
    refine JC_block ?_
    -- stop: loop
    refine JC_nil 4 1 ?_
    refine JC_loopF (γ := Nat × Value × List Bool) (fun q => q.1 ≤ r.ls.length ∧ q.2.2.length = q.1 ∧ ∀ k l, r.ls[k]? = some l → k < q.1 → l.s = true → q.2.2[k]? = some true) (fun q => [(11, I q.1), (9, q.2.1)]) (fun q => [ow q.2.1 4 1 q.2.2.length (q.2.2.flatMap encQ)]) (fun q => r.ls.length - q.1) (0, .slice none 0 0, []) ⟨Nat.zero_le _, rfl, fun k l _ hk => absurd hk (Nat.not_lt_zero k)⟩ (stsub_consI rfl rfl (stsub_cons rfl stsub_nil)) (ht_ow rfl rfl ht_nil) ?_
    rintro ⟨i, v, cs⟩ ⟨hi, hcl, hcs⟩ K hK
    dsimp only [List.cons_append, List.nil_append] at hi hcl hcs ⊢
    refine JC_seq ?_
    refine JC_seq ?_
    refine JC_region ?_
    refine JL_pd rfl (det_move rfl) ?_
    refine JL_pd rfl (det_fieldAddr rfl fo_30_4) ?_
    refine JL_dt rfl (det_loadK rfl Tryz.isAgg28 rfl) ?_
    refine JL_pd rfl (det_len rfl Tryz.runUnderlying28) ?_
    refine JL_pd rfl (det_lss rfl rfl) ?_
    refine JL_nil ?_
    refine JE_seq ?_
    -- stop: cond
    refine JC_if rfl (fun h2 => ?_) (fun h2 => ?_)
    · have hi2 : i < r.ls.length := by omega
      have hnx : ∀ b : Bool, (r.ls[i].s = true → b = true) → ∀ k l, r.ls[k]? = some l → k < i + 1 → l.s = true → (cs ++ [b])[k]? = some true := fun b hb k l hk hlt hs => by
        by_cases e : k = i
        · subst e
          rw [List.getElem?_eq_getElem hi2] at hk
          cases hk
          rw [List.getElem?_append_right (by omega), hcl, Nat.sub_self, hb hs]; rfl
        · rw [List.getElem?_append_left (by omega)]
          exact hcs k l hk (by omega) hs
      have hwb := wordV_bd hw (i + 3)
      have hwj := word_j ws (i + 3) wa wc hw
      rw [show ((i + 3 : Nat) : Int) = (i : Int) + 3 by omega] at hwj
      refine JC_skip ?_
      refine JE_seq ?_
      refine JC_seq ?_
      refine JC_block ?_
      refine JC_region ?_
      refine JL_pd rfl (det_move rfl) ?_
      refine JL_pd rfl (det_fieldAddr rfl fo_30_4) ?_
      refine JL_dt rfl (det_loadK rfl Tryz.isAgg28 rfl) ?_
      refine JL_pd rfl (det_move rfl) ?_
      refine JL_dt rfl (det_indexAddr rfl rfl (by first | rfl | omega) (by first | assumption | omega | decide) Tryz.runUnderlying28 Tryz.sizeOf111) ?_
      refine JL_pd rfl (det_fieldAddrE rfl fo_111_2) ?_
      refine JL_dt rfl (det_loadEk rfl (by first | assumption | omega | decide) Tryz.isAgg4 rfl rfl) ?_
      refine JL_pd rfl (det_move rfl) ?_
      -- stop: guard 7
      refine JL_split (d0 := 57) rfl (fun g1 => ?_) (fun g1 => ?_)
      · refine JL_skip rfl rfl g1 rfl ?_
        refine JL_skip rfl rfl g1 rfl ?_
        refine JL_skip rfl rfl g1 rfl ?_
        refine JL_skip rfl rfl g1 rfl ?_
        refine JL_skip rfl rfl g1 rfl ?_
        refine JL_skip rfl rfl g1 rfl ?_
        refine JL_pd rfl (det_pick_t rfl g1 rfl) ?_
        refine JL_step rfl rfl rfl (jo_buildSlice rfl (bsl_58_1_0 _)) fun b65 => ?_
        refine JL_step rfl rfl rfl (jo_append el_58 rfl rfl rfl rfl (by omega)) fun b66 => ?_
        refine JL_pd rfl (det_assign rfl) ?_
        refine JL_nil ?_
        refine JE_block ?_
        refine JE_seq ?_
        refine JC_region ?_
        refine JL_pd rfl (det_move rfl) ?_
        refine JL_pd rfl (det_add rfl rfl ⟨by omega, by omega⟩) ?_
        refine JL_pd rfl (det_assign rfl) ?_
        refine JL_nil ?_
        -- stop: end
        refine JE_roundF hK (i + 1, .slice (some ⟨b66.1, 0, none⟩) (cs.length + 1) b66.2, cs ++ [true]) ⟨by simp only; omega, by simp only [List.length_append, List.length_singleton]; omega, hnx true fun _ => rfl⟩ (by simp only; omega) (stsub_consI rfl (by simp only; omega) (stsub_cons rfl stsub_nil)) (ht_ow (by simp) (by rw [List.flatMap_append]; rfl) ht_nil)
      · refine JL_guard rfl rfl g1 ?_
        refine JL_pd rfl (det_move rfl) ?_
        refine JL_guard rfl rfl g1 ?_
        refine JL_pd rfl (det_move rfl) ?_
        refine JL_guard rfl rfl g1 ?_
        refine JL_pd rfl (det_add rfl rfl ⟨by omega, by omega⟩) ?_
        refine JL_guard rfl rfl g1 ?_
        refine JL_step rfl rfl rfl (jo_callv rfl rfl Tryz.call56 rfl (hwj)) fun _ => ?_
        refine JL_guard rfl rfl g1 ?_
        refine JL_pd rfl (det_rem rfl rfl (by omega)) ?_
        refine JL_guard rfl rfl g1 ?_
        refine JL_pd rfl (det_eql rfl rfl) ?_
        refine JL_pd rfl (det_pick_f rfl g1 rfl) ?_
        refine JL_step rfl rfl rfl (jo_buildSlice rfl (bsl_58_1_0 _)) fun b65 => ?_
        refine JL_step rfl rfl rfl (jo_append el_58 rfl rfl rfl rfl (by omega)) fun b66 => ?_
        refine JL_pd rfl (det_assign rfl) ?_
        refine JL_nil ?_
        refine JE_block ?_
        refine JE_seq ?_
        refine JC_region ?_
        refine JL_pd rfl (det_move rfl) ?_
        refine JL_pd rfl (det_add rfl rfl ⟨by omega, by omega⟩) ?_
        refine JL_pd rfl (det_assign rfl) ?_
        refine JL_nil ?_
        -- stop: end
        refine JE_roundF hK (i + 1, .slice (some ⟨b66.1, 0, none⟩) (cs.length + 1) b66.2, cs ++ [decide ((wordV ws (i + 3)).tmod 2 = 1)]) ⟨by simp only; omega, by simp only [List.length_append, List.length_singleton]; omega, hnx _ fun h => by rw [h] at g1; cases g1⟩ (by simp only; omega) (stsub_consI rfl (by simp only; omega) (stsub_cons rfl stsub_nil)) (ht_ow (by simp) (by rw [List.flatMap_append]; rfl) ht_nil)
    · obtain rfl : i = r.ls.length := by omega
      refine JC_slice (enc := encQ) (v := v) cs noFp rfl rfl ?_
      rintro ca cc rfl
      refine JC_exit ?_
      refine JE_seq_exit ?_
      refine JE_then_exit ?_
      refine JE_block_here ?_
      refine JE_seq ?_
      refine JC_seq ?_
      refine JC_region ?_
      refine JL_pd rfl (det_move rfl) ?_
      refine JL_pd rfl (det_move rfl) ?_
      refine JL_pd rfl (det_assign rfl) ?_
      refine JL_pd rfl (det_assign rfl) ?_
      refine JL_nil ?_
      refine JE_seq ?_
      refine JC_ret ?_
      -- stop: out
      refine JE_out (.inl rfl) ((pa, pc, ns), (ca, cc, ⟨cs, hcl, fun k l hk hs => hcs k l hk (List.getElem?_eq_some_iff.1 hk).1 hs⟩)) (results2 Tryz.results18 (res_tmp rfl) (res_tmp rfl)) rfl (List.Perm.refl _) (fun w h => h.1)
end Go.Proofs.YthpkgabckklojaaGreat.Rk

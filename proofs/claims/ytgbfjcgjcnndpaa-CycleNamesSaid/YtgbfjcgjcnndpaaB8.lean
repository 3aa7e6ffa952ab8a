/- Own texts, laid together: C26 C27 C28 C29 C30. Nothing is asked. -/
import Derived.Test.YtgbfjcgjcnndpaaB7
import Derived.Test.YtgbfjcgjcnndpaaB3
set_option linter.unusedSimpArgs false
set_option linter.unusedVariables false
/- Walks of the reference for cycle: stands, dangers, goals, what can be. -/
namespace Go.Proofs.Ytgbfjcgjcnndpaa
open Go.RowKit Go.Shelf

set_option maxRecDepth 100000 in
theorem RStands_j (w : Nat → Bool) : Cr Try.prog 24 [evB w] KTrue (fun q : Option Addr × Nat => .slice q.1 (standsW w).length q.2) (fun q => KSl q.1 (standsW w).length q.2 encSd (standsW w)) := by
  refine Cx_of Try.func24 rfl Try.ntmps24 rfl fun w0 M0 => ?_
  refine JC_seq ?_
  refine JC_region ?_
  refine JL_step rfl rfl rfl (jo_box rfl rfl) fun b1 => ?_
  refine JL_pd rfl (det_assign rfl) ?_
  refine JL_nil ?_
  refine JE_seq ?_
  refine JC_seq ?_
  refine JC_region ?_
  refine JL_pd rfl (det_assign rfl) ?_
  refine JL_nil ?_
  refine JE_seq ?_
  refine JC_seq ?_
  refine JC_seq ?_
  refine JC_region ?_
  refine JL_pd rfl (det_assign rfl) ?_
  refine JL_nil ?_
  refine JE_seq ?_
  refine JC_block ?_
  -- stop: loop
  refine JC_nil 53 2 ?_
  refine JC_keep b1 noFp ?_
  refine JC_loopF (γ := Nat × Value) (fun q => q.1 ≤ 8) (fun q => [(4, I q.1), (3, q.2)]) (fun q => [ow q.2 53 2 (standsN w (q.1 * 3)).length ((standsN w (q.1 * 3)).flatMap encSd)]) (fun q => 8 - q.1) (0, .slice none 0 0) (by simp) (stsub_consI rfl rfl (stsub_cons rfl stsub_nil)) (show HTake _ [ow (.slice none 0 0) 53 2 0 []] _ from ht_cons ht_nil) ?_
  rintro ⟨i, v⟩ hi K hK
  dsimp only [List.cons_append, List.nil_append] at hi ⊢
  refine JC_seq ?_
  refine JC_seq ?_
  refine JC_region ?_
  refine JL_pd rfl (det_move rfl) ?_
  refine JL_pd rfl (det_lss rfl rfl) ?_
  refine JL_nil ?_
  refine JE_seq ?_
  -- stop: cond
  refine JC_if rfl (fun h1 => ?_) (fun h1 => ?_)
  · have hi2 : i < 8 := by omega
    refine JC_skip ?_
    refine JE_seq ?_
    refine JC_seq ?_
    refine JC_block ?_
    refine JC_seq ?_
    refine JC_region ?_
    refine JL_pd rfl (det_assign rfl) ?_
    refine JL_nil ?_
    refine JE_seq ?_
    refine JC_block ?_
    -- stop: loop
    refine JC_loopF (γ := Nat × Value) (fun q => q.1 ≤ 3) (fun q => [(5, I q.1), (3, q.2)]) (fun q => [ow q.2 53 2 (standsN w (i * 3 + q.1)).length ((standsN w (i * 3 + q.1)).flatMap encSd)]) (fun q => 3 - q.1) (0, v) (by simp) (stsub_consI rfl rfl (stsub_cons rfl stsub_nil)) (ht_cons ht_nil) ?_
    rintro ⟨j, u⟩ hj K2 hK2
    dsimp only [List.cons_append, List.nil_append] at hj ⊢
    have hs := standsN_succ w (i * 3 + j)
    have hlen := standsN_len w (i * 3 + j)
    have hoff : 0 + i * 3 + j * 1 = i * 3 + j := by omega
    refine JC_seq ?_
    refine JC_seq ?_
    refine JC_region ?_
    refine JL_pd rfl (det_move rfl) ?_
    refine JL_pd rfl (det_lss rfl rfl) ?_
    refine JL_nil ?_
    refine JE_seq ?_
    -- stop: cond
    refine JC_if rfl (fun h2 => ?_) (fun h2 => ?_)
    · have hj2 : j < 3 := by omega
      refine JC_skip ?_
      refine JE_seq ?_
      refine JC_seq ?_
      refine JC_block ?_
      refine JC_seq ?_
      refine JC_region ?_
      refine JL_pd rfl (det_move rfl) ?_
      refine JL_pd rfl (det_move rfl) ?_
      refine JL_pd rfl (det_indexArr (i := i) rfl rfl (by first | rfl | omega) (by omega) Try.runUnderlying45 Try.sizeOf43) ?_
      refine JL_pd rfl (det_indexArr (i := j) rfl rfl (by first | rfl | omega) (by omega) Try.runUnderlying43 Try.sizeOf4) ?_
      refine JL_dt rfl (det_loadK (v := .bool (w (i * 3 + j))) rfl Try.isAgg4 (by rw [hoff]; exact encW_get (by omega))) ?_
      refine JL_nil ?_
      refine JE_seq ?_
      -- stop: cond
      refine JC_cond rfl (fun h3 => ?_) (fun h3 => ?_)
      · rw [if_pos h3] at hs
        have hsd : encSd (sdOf (i * 3 + j)) = [I i, I j] := by
          unfold encSd sdOf
          rw [show (i * 3 + j) / 3 = i by omega, show (i * 3 + j) % 3 = j by omega]
        refine JC_region ?_
        refine JL_pd rfl (det_move rfl) ?_
        refine JL_pd rfl (det_move rfl) ?_
        refine JL_pd rfl (det_move rfl) ?_
        refine JL_pd rfl (det_build rfl (bld_53_0_1 _ _)) ?_
        refine JL_step rfl rfl rfl (jo_buildSlice rfl (bsl_41_1_0 _ _)) fun b23 => ?_
        refine JL_step rfl rfl rfl (jo_append el_41 rfl rfl rfl rfl (by omega)) fun b24 => ?_
        refine JL_pd rfl (det_assign rfl) ?_
        refine JL_nil ?_
        refine JE_block ?_
        refine JE_seq ?_
        refine JC_region ?_
        refine JL_pd rfl (det_move rfl) ?_
        refine JL_pd rfl (det_add rfl rfl ⟨by omega, by omega⟩) ?_
        refine JL_pd rfl (det_assign rfl) ?_
        refine JL_nil ?_
        -- stop: end
        refine JE_roundF hK2 (j + 1, .slice (some ⟨b24.1, 0, none⟩) ((standsN w (i * 3 + j)).length + 1) b24.2) (by simp only; omega) (by simp only; omega) (stsub_consI rfl (by simp only; omega) (stsub_cons rfl stsub_nil)) (ht_ow (by rw [← Nat.add_assoc, hs]; simp) (by rw [← Nat.add_assoc, hs, List.flatMap_append, List.flatMap_cons, List.flatMap_nil, List.append_nil, hsd]) ht_nil)
      · rw [if_neg (by simp [h3]), List.append_nil] at hs
        refine JC_skip ?_
        refine JE_block ?_
        refine JE_seq ?_
        refine JC_region ?_
        refine JL_pd rfl (det_move rfl) ?_
        refine JL_pd rfl (det_add rfl rfl ⟨by omega, by omega⟩) ?_
        refine JL_pd rfl (det_assign rfl) ?_
        refine JL_nil ?_
        -- stop: end
        refine JE_roundF hK2 (j + 1, u) (by simp only; omega) (by simp only; omega) (stsub_consI rfl (by simp only; omega) (stsub_cons rfl stsub_nil)) (ht_ow (by rw [← Nat.add_assoc, hs]) (by rw [← Nat.add_assoc, hs]) ht_nil)
    · obtain rfl : j = 3 := by omega
      refine JC_exit ?_
      refine JE_seq_exit ?_
      refine JE_then_exit ?_
      refine JE_block_here ?_
      refine JE_block ?_
      refine JE_seq ?_
      refine JC_region ?_
      refine JL_pd rfl (det_move rfl) ?_
      refine JL_pd rfl (det_add rfl rfl ⟨by omega, by omega⟩) ?_
      refine JL_pd rfl (det_assign rfl) ?_
      refine JL_nil ?_
      -- stop: end
      refine JE_roundF hK (i + 1, u) (by simp only; omega) (by simp only; omega) (stsub_consI rfl (by simp only; omega) (stsub_cons rfl stsub_nil)) (ht_ow (by rw [Nat.add_mul, Nat.one_mul]) (by rw [Nat.add_mul, Nat.one_mul]) ht_nil)
  · obtain rfl : i = 8 := by omega
    refine JC_slice (enc := encSd) (v := v) (standsW w) noFp rfl rfl ?_
    rintro av cv rfl
    refine JC_exit ?_
    refine JE_seq_exit ?_
    refine JE_then_exit ?_
    refine JE_block_here ?_
    refine JE_seq ?_
    refine JC_seq ?_
    refine JC_region ?_
    refine JL_pd rfl (det_move rfl) ?_
    refine JL_pd rfl (det_assign rfl) ?_
    refine JL_nil ?_
    refine JE_seq ?_
    refine JC_ret ?_
    -- stop: out
    refine JE_out (.inl rfl) (av, cv) (results1 Try.results24 (res_tmp rfl)) rfl (List.Perm.refl _) (fun w h => h.1)
theorem Runs_j (m : Mc) (a : MA) (n : Int) (hl : m.running.length ≤ 1000) : Cv Try.prog 39 [.agg #[I m.states, .slice a.sa m.steps.length a.sc, .slice a.ra m.running.length a.rc, .slice a.ka m.locks.length a.kc], I n] (KMc m a) (.bool (decide (n ∈ m.running))) := by
  refine Cx_of Try.func39 rfl Try.ntmps39 rfl fun w0 M0 => ?_
  refine JC_seq ?_
  refine JC_region ?_
  refine JL_step rfl rfl rfl (jo_box rfl rfl) fun b2 => ?_
  refine JL_pd rfl (det_assign rfl) ?_
  refine JL_nil ?_
  refine JE_seq ?_
  refine JC_seq ?_
  refine JC_seq ?_
  refine JC_region ?_
  refine JL_pd rfl (det_assign rfl) ?_
  refine JL_nil ?_
  refine JE_seq ?_
  refine JC_block ?_
  -- stop: loop
  refine JC_loopF (γ := Nat) (fun i => i ≤ m.running.length ∧ n ∉ m.running.take i) (fun i => [(5, I i)]) (fun _ => []) (fun i => m.running.length - i) 0 ⟨Nat.zero_le _, by simp⟩ (stsub_consI rfl rfl stsub_nil) ht_nil ?_
  rintro i ⟨hi, hno⟩ K hK
  dsimp only [List.cons_append, List.nil_append]
  refine JC_seq ?_
  refine JC_seq ?_
  refine JC_region ?_
  refine JL_pd rfl (det_move rfl) ?_
  refine JL_pd rfl (det_fieldAddr rfl fo_26_2) ?_
  refine JL_dt rfl (det_loadK rfl Try.isAgg23 rfl) ?_
  refine JL_pd rfl (det_len rfl Try.runUnderlying23) ?_
  refine JL_pd rfl (det_lss rfl rfl) ?_
  refine JL_nil ?_
  refine JE_seq ?_
  -- stop: cond
  refine JC_if rfl (fun h1 => ?_) (fun h1 => ?_)
  · have hi2 : i < m.running.length := by omega
    refine JC_skip ?_
    refine JE_seq ?_
    refine JC_seq ?_
    refine JC_block ?_
    refine JC_seq ?_
    refine JC_region ?_
    refine JL_pd rfl (det_fieldAddr rfl fo_26_2) ?_
    refine JL_dt rfl (det_loadK rfl Try.isAgg23 rfl) ?_
    refine JL_pd rfl (det_move rfl) ?_
    refine JL_dt rfl (det_indexAddr rfl rfl (by first | rfl | omega) (by first | assumption | omega | decide) Try.runUnderlying23 Try.sizeOf3) ?_
    refine JL_dt rfl (det_loadE rfl (by first | assumption | omega | decide) Try.isAgg3 rfl rfl) ?_
    refine JL_pd rfl (det_move rfl) ?_
    refine JL_pd rfl (det_eql rfl rfl) ?_
    refine JL_nil ?_
    refine JE_seq ?_
    -- stop: cond
    refine JC_if rfl (fun h2 => ?_) (fun h2 => ?_)
    · refine JC_seq ?_
      refine JC_region ?_
      refine JL_pd rfl (det_assign rfl) ?_
      refine JL_nil ?_
      refine JE_seq ?_
      refine JC_ret ?_
      refine JE_block_ret ?_
      refine JE_seq_ret ?_
      refine JE_then_ret ?_
      refine JE_block_ret ?_
      refine JE_seq_ret ?_
      -- stop: out
      refine JE_out (.inl rfl) () (results1 Try.results39 (res_tmp rfl)) (by rw [decide_eq_true (show n ∈ m.running by rw [← h2]; exact List.getElem_mem hi2)]) (List.Perm.refl _) (fun _ _ => trivial)
    · refine JC_skip ?_
      refine JE_block ?_
      refine JE_seq ?_
      refine JC_region ?_
      refine JL_pd rfl (det_move rfl) ?_
      refine JL_pd rfl (det_add rfl rfl ⟨by omega, by omega⟩) ?_
      refine JL_pd rfl (det_assign rfl) ?_
      refine JL_nil ?_
      -- stop: end
      refine JE_roundF hK (i + 1) ⟨by omega, by rw [take_snoc hi2, List.mem_append, List.mem_singleton]; exact fun h => h.elim hno fun e => h2 e.symm⟩ (by omega) (stsub_consI rfl (by omega) stsub_nil) ht_nil
  · obtain rfl : i = m.running.length := by omega
    rw [List.take_length] at hno
    refine JC_exit ?_
    refine JE_seq_exit ?_
    refine JE_then_exit ?_
    refine JE_block_here ?_
    refine JE_seq ?_
    refine JC_seq ?_
    refine JC_region ?_
    refine JL_pd rfl (det_assign rfl) ?_
    refine JL_nil ?_
    refine JE_seq ?_
    refine JC_ret ?_
    -- stop: out
    refine JE_out (.inl rfl) () (results1 Try.results39 (res_tmp rfl)) (by rw [decide_eq_false hno]) (List.Perm.refl _) (fun _ _ => trivial)
theorem IsDanger_j (m : Mc) (a : MA) (s : Sd) (hl : m.running.length ≤ 1000) : Cv Try.prog 50 [.agg #[I m.states, .slice a.sa m.steps.length a.sc, .slice a.ra m.running.length a.rc, .slice a.ka m.locks.length a.kc], .agg #[I s.st, I s.sp]] (KMc m a) (.bool (dangerB m s)) := by
  refine Cx_of Try.func50 rfl Try.ntmps50 rfl fun w0 M0 => ?_
  refine JC_seq ?_
  refine JC_region ?_
  refine JL_step rfl rfl rfl (jo_box rfl rfl) fun b2 => ?_
  refine JL_step rfl rfl rfl (jo_box rfl rfl) fun b3 => ?_
  refine JL_pd rfl (det_assign rfl) ?_
  refine JL_nil ?_
  refine JE_seq ?_
  refine JC_seq ?_
  refine JC_region ?_
  refine JL_pd rfl (det_fieldAddr rfl fo_53_1) ?_
  refine JL_dt rfl (det_loadK rfl Try.isAgg3 rfl) ?_
  refine JL_pd rfl (det_eql rfl rfl) ?_
  refine JL_pd rfl (det_move rfl) ?_
  refine JL_split (d0 := 8) rfl (fun h1 => ?_) (fun h1 => ?_)
  · refine JL_guard rfl rfl h1 ?_
    refine JL_dt rfl (det_loadKA rfl Try.isAgg26 Try.sizeOf26 rfl rfl) ?_
    refine JL_guard rfl rfl h1 ?_
    refine JL_pd rfl (det_fieldAddr rfl fo_53_0) ?_
    refine JL_guard rfl rfl h1 ?_
    refine JL_dt rfl (det_loadK rfl Try.isAgg3 rfl) ?_
    refine JL_guard rfl rfl h1 ?_
    refine JL_step rfl rfl rfl (jo_callv rfl rfl Try.call39 rfl (Runs_j m a _ hl)) fun _ => ?_
    refine JL_pd rfl (det_pick_t rfl h1 rfl) ?_
    refine JL_pd rfl (det_assign rfl) ?_
    refine JL_nil ?_
    refine JE_seq ?_
    refine JC_ret ?_
    refine JE_out (.inl rfl) () (results1 Try.results50 (res_tmp rfl)) ?_ (List.Perm.refl _) (fun _ _ => trivial)
    (simp_all [dangerB])
  · refine JL_skip rfl rfl h1 rfl ?_
    refine JL_skip rfl rfl h1 rfl ?_
    refine JL_skip rfl rfl h1 rfl ?_
    refine JL_skip rfl rfl h1 rfl ?_
    refine JL_pd rfl (det_pick_f rfl h1 rfl) ?_
    refine JL_pd rfl (det_assign rfl) ?_
    refine JL_nil ?_
    refine JE_seq ?_
    refine JC_ret ?_
    refine JE_out (.inl rfl) () (results1 Try.results50 (res_tmp rfl)) ?_ (List.Perm.refl _) (fun _ _ => trivial)
    (simp_all [dangerB])
def meetB (a b : Nat → Bool) : Bool := (List.range 24).any fun n => a n && b n
theorem meets_j (a b : Nat → Bool) : Cv Try.prog 87 [evB a, evB b] KTrue (.bool (meetB a b)) := by
  have hm : ∀ n, n < 24 → a n = true → b n = true → meetB a b = true := fun n hn h1 h2 => by
    unfold meetB; rw [List.any_eq_true]; exact ⟨n, List.mem_range.2 hn, by rw [h1, h2]; rfl⟩
  refine Cx_of Try.func87 rfl Try.ntmps87 rfl fun w0 M0 => ?_
  refine JC_seq ?_
  refine JC_region ?_
  refine JL_step rfl rfl rfl (jo_box rfl rfl) fun b2 => ?_
  refine JL_step rfl rfl rfl (jo_box rfl rfl) fun b3 => ?_
  refine JL_pd rfl (det_assign rfl) ?_
  refine JL_nil ?_
  refine JE_seq ?_
  refine JC_seq ?_
  refine JC_seq ?_
  refine JC_region ?_
  refine JL_pd rfl (det_assign rfl) ?_
  refine JL_nil ?_
  refine JE_seq ?_
  refine JC_block ?_
  -- stop: loop
  refine JC_keep b3 noFp ?_
  refine JC_keep b2 noFp ?_
  refine JC_loopF (γ := Nat) (fun i => i ≤ 8 ∧ ∀ n, n < i * 3 → (a n && b n) = false) (fun i => [(5, I i)]) (fun _ => []) (fun i => 8 - i) 0 ⟨Nat.zero_le _, fun n h => by omega⟩ (stsub_consI rfl rfl stsub_nil) ht_nil ?_
  rintro i ⟨hi, hA⟩ K hK
  dsimp only [List.cons_append, List.nil_append]
  refine JC_seq ?_
  refine JC_seq ?_
  refine JC_region ?_
  refine JL_pd rfl (det_move rfl) ?_
  refine JL_pd rfl (det_lss rfl rfl) ?_
  refine JL_nil ?_
  refine JE_seq ?_
  -- stop: cond
  refine JC_if rfl (fun h1 => ?_) (fun h1 => ?_)
  · have hi2 : i < 8 := by omega
    refine JC_skip ?_
    refine JE_seq ?_
    refine JC_seq ?_
    refine JC_block ?_
    refine JC_seq ?_
    refine JC_region ?_
    refine JL_pd rfl (det_assign rfl) ?_
    refine JL_nil ?_
    refine JE_seq ?_
    refine JC_block ?_
    -- stop: loop
    refine JC_loopF (γ := Nat) (fun j => j ≤ 3 ∧ ∀ n, n < i * 3 + j → (a n && b n) = false) (fun j => [(6, I j)]) (fun _ => []) (fun j => 3 - j) 0 ⟨Nat.zero_le _, hA⟩ (stsub_consI rfl rfl stsub_nil) ht_nil ?_
    rintro j ⟨hj, hB⟩ K2 hK2
    dsimp only [List.cons_append, List.nil_append]
    refine JC_seq ?_
    refine JC_seq ?_
    refine JC_region ?_
    refine JL_pd rfl (det_move rfl) ?_
    refine JL_pd rfl (det_lss rfl rfl) ?_
    refine JL_nil ?_
    refine JE_seq ?_
    -- stop: cond
    refine JC_if rfl (fun h2 => ?_) (fun h2 => ?_)
    · have hj2 : j < 3 := by omega
      have hoff : 0 + i * 3 + j * 1 = i * 3 + j := by omega
      refine JC_skip ?_
      refine JE_seq ?_
      refine JC_seq ?_
      refine JC_block ?_
      refine JC_seq ?_
      refine JC_region ?_
      refine JL_pd rfl (det_move rfl) ?_
      refine JL_pd rfl (det_move rfl) ?_
      refine JL_pd rfl (det_indexArr (i := i) rfl rfl (by first | rfl | omega) (by omega) Try.runUnderlying45 Try.sizeOf43) ?_
      refine JL_pd rfl (det_indexArr (i := j) rfl rfl (by first | rfl | omega) (by omega) Try.runUnderlying43 Try.sizeOf4) ?_
      refine JL_dt rfl (det_loadK (v := .bool (a (i * 3 + j))) rfl Try.isAgg4 (by rw [hoff]; exact encW_get (by omega))) ?_
      refine JL_pd rfl (det_move rfl) ?_
      -- stop: guard 5
      refine JL_join1 6 26 (.bool (a (i * 3 + j) && b (i * 3 + j))) (fun hj => ?_) ?_
      · refine JL_split (d0 := 20) rfl (fun q2 => ?_) (fun q2 => ?_)
        · refine JL_guard rfl rfl q2 ?_
          refine JL_pd rfl (det_move rfl) ?_
          refine JL_guard rfl rfl q2 ?_
          refine JL_pd rfl (det_move rfl) ?_
          refine JL_guard rfl rfl q2 ?_
          refine JL_pd rfl (det_indexArr (i := i) rfl rfl (by first | rfl | omega) (by omega) Try.runUnderlying45 Try.sizeOf43) ?_
          refine JL_guard rfl rfl q2 ?_
          refine JL_pd rfl (det_indexArr (i := j) rfl rfl (by first | rfl | omega) (by omega) Try.runUnderlying43 Try.sizeOf4) ?_
          refine JL_guard rfl rfl q2 ?_
          refine JL_dt rfl (det_loadK (v := .bool (b (i * 3 + j))) rfl Try.isAgg4 (by rw [hoff]; exact encW_get (by omega))) ?_
          refine JL_pd rfl (det_pick_t rfl q2 rfl) ?_
          exact hj (by kernel_rfl) (stsub_consB rfl (by clear hj; first | rfl | (simp only [q2, Bool.and_true, Bool.true_and, Bool.false_and, Bool.and_false, Bool.or_true, Bool.true_or, Bool.or_false, Bool.false_or, Bool.not_true, Bool.not_false]; done) | (simp [q2]; done) | (simp at q2; done) | (simp [q2] <;> omega) | (exfalso; simp at q2; omega)) stsub_nil)
        · refine JL_skip rfl rfl q2 rfl ?_
          refine JL_skip rfl rfl q2 rfl ?_
          refine JL_skip rfl rfl q2 rfl ?_
          refine JL_skip rfl rfl q2 rfl ?_
          refine JL_skip rfl rfl q2 rfl ?_
          refine JL_pd rfl (det_pick_f rfl q2 rfl) ?_
          exact hj (by kernel_rfl) (stsub_consB rfl (by clear hj; first | rfl | (simp only [q2, Bool.and_true, Bool.true_and, Bool.false_and, Bool.and_false, Bool.or_true, Bool.true_or, Bool.or_false, Bool.false_or, Bool.not_true, Bool.not_false]; done) | (simp [q2]; done) | (simp at q2; done) | (simp [q2] <;> omega) | (exfalso; simp at q2; omega)) stsub_nil)
      refine JL_nil ?_
      refine JE_seq ?_
      -- stop: cond
      refine JC_cond rfl (fun h3 => ?_) (fun h3 => ?_)
      · have h3' := h3
        rw [Bool.and_eq_true] at h3'
        refine JC_seq ?_
        refine JC_region ?_
        refine JL_pd rfl (det_assign rfl) ?_
        refine JL_nil ?_
        refine JE_seq ?_
        refine JC_ret ?_
        refine JE_block_ret ?_
        refine JE_seq_ret ?_
        refine JE_then_ret ?_
        refine JE_block_ret ?_
        refine JE_block_ret ?_
        refine JE_seq_ret ?_
        refine JE_then_ret ?_
        refine JE_block_ret ?_
        refine JE_seq_ret ?_
        -- stop: out
        refine JE_out (.inl rfl) () (results1 Try.results87 (res_tmp rfl)) (by rw [hm _ (by omega) h3'.1 h3'.2]) (List.Perm.refl _) (fun _ _ => trivial)
      · refine JC_skip ?_
        refine JE_block ?_
        refine JE_seq ?_
        refine JC_region ?_
        refine JL_pd rfl (det_move rfl) ?_
        refine JL_pd rfl (det_add rfl rfl ⟨by omega, by omega⟩) ?_
        refine JL_pd rfl (det_assign rfl) ?_
        refine JL_nil ?_
        -- stop: end
        refine JE_roundF hK2 (j + 1) ⟨by omega, fun n hn => ?_⟩ (by omega) (stsub_consI rfl (by omega) stsub_nil) ht_nil
        by_cases e : n = i * 3 + j
        · subst e; exact h3
        · exact hB n (by omega)
    · obtain rfl : j = 3 := by omega
      refine JC_exit ?_
      refine JE_seq_exit ?_
      refine JE_then_exit ?_
      refine JE_block_here ?_
      refine JE_block ?_
      refine JE_seq ?_
      refine JC_region ?_
      refine JL_pd rfl (det_move rfl) ?_
      refine JL_pd rfl (det_add rfl rfl ⟨by omega, by omega⟩) ?_
      refine JL_pd rfl (det_assign rfl) ?_
      refine JL_nil ?_
      -- stop: end
      refine JE_roundF hK (i + 1) ⟨by omega, fun n hn => hB n (by omega)⟩ (by omega) (stsub_consI rfl (by omega) stsub_nil) ht_nil
  · obtain rfl : i = 8 := by omega
    have hno : meetB a b = false := by
      unfold meetB
      rw [List.any_eq_false]
      intro n hn
      rw [hA n (by have := List.mem_range.1 hn; omega)]
      exact Bool.false_ne_true
    refine JC_exit ?_
    refine JE_seq_exit ?_
    refine JE_then_exit ?_
    refine JE_block_here ?_
    refine JE_seq ?_
    refine JC_seq ?_
    refine JC_region ?_
    refine JL_pd rfl (det_assign rfl) ?_
    refine JL_nil ?_
    refine JE_seq ?_
    refine JC_ret ?_
    -- stop: out
    refine JE_out (.inl rfl) () (results1 Try.results87 (res_tmp rfl)) (by rw [hno]) (List.Perm.refl _) (fun _ _ => trivial)
def goalG (m : Mc) (dg : Bool) (tg : Sd) : Nat → Bool := fun j => decide ((sdOf j).st < m.states) && (if dg = true then dangerB m (sdOf j) else decide (sdOf j = tg))
set_option maxRecDepth 100000 in
set_option maxHeartbeats 1000000 in
theorem Goal_j (m : Mc) (a : MA) (dg : Bool) (tg : Sd) (V : Valid m) : Cv Try.prog 28 [.agg #[I m.states, .slice a.sa m.steps.length a.sc, .slice a.ra m.running.length a.rc, .slice a.ka m.locks.length a.kc], .bool dg, .agg #[I tg.st, I tg.sp]] (KMc m a) (evB (goalG m dg tg)) := by
  have s1 := V.s1
  have s2 := V.s2
  have hrn := V.nr
  refine Cx_of Try.func28 rfl Try.ntmps28 rfl fun w0 M0 => ?_
  refine JC_seq ?_
  refine JC_region ?_
  refine JL_step rfl rfl rfl (jo_box rfl rfl) fun b3 => ?_
  refine JL_step rfl rfl rfl (jo_box rfl rfl) fun b5 => ?_
  refine JL_step rfl rfl rfl (jo_alloc0 Try.zeroValue45 rfl) fun b6 => ?_
  refine JL_nil ?_
  refine JE_seq ?_
  refine JC_seq ?_
  refine JC_region ?_
  refine JL_step rfl rfl rfl (jo_alloc0 Try.zeroValue45 rfl) fun b7 => ?_
  refine JL_nil ?_
  refine JE_seq ?_
  refine JC_seq ?_
  refine JC_seq ?_
  refine JC_region ?_
  refine JL_pd rfl (det_assign rfl) ?_
  refine JL_nil ?_
  refine JE_seq ?_
  refine JC_block ?_
  -- stop: loop
  refine JC_keep b3 noFp ?_
  refine JC_keep b5 noFp ?_
  refine JC_loopF (γ := Nat × (Nat → Bool)) (fun q => (q.1 : Int) ≤ m.states ∧ ∀ n, n < 24 → q.2 n = if n < q.1 * 3 then goalG m dg tg n else false) (fun q => [(8, I q.1)]) (fun q => [bx b7 (encW 24 q.2)]) (fun q => 8 - q.1) (0, fun _ => false) ⟨by simp only; omega, fun n _ => by simp⟩ (stsub_consI rfl rfl stsub_nil) (ht_bx rfl ht_nil) ?_
  rintro ⟨i, A⟩ ⟨hi, hA⟩ K hK
  dsimp only [List.cons_append, List.nil_append] at hi hA ⊢
  refine JC_seq ?_
  refine JC_seq ?_
  refine JC_region ?_
  refine JL_pd rfl (det_move rfl) ?_
  refine JL_pd rfl (det_fieldAddr rfl fo_26_0) ?_
  refine JL_dt rfl (det_loadK rfl Try.isAgg3 rfl) ?_
  refine JL_pd rfl (det_lss rfl rfl) ?_
  refine JL_nil ?_
  refine JE_seq ?_
  -- stop: cond
  refine JC_if rfl (fun h1 => ?_) (fun h1 => ?_)
  · have hi2 : i < 8 := by omega
    refine JC_skip ?_
    refine JE_seq ?_
    refine JC_seq ?_
    refine JC_block ?_
    refine JC_seq ?_
    refine JC_region ?_
    refine JL_pd rfl (det_assign rfl) ?_
    refine JL_nil ?_
    refine JE_seq ?_
    refine JC_block ?_
    -- stop: loop
    refine JC_loopF (γ := Nat × (Nat → Bool)) (fun q => q.1 ≤ 3 ∧ ∀ n, n < 24 → q.2 n = if n < i * 3 + q.1 then goalG m dg tg n else false) (fun q => [(9, I q.1)]) (fun q => [bx b7 (encW 24 q.2)]) (fun q => 3 - q.1) (0, A) ⟨Nat.zero_le _, hA⟩ (stsub_consI rfl rfl stsub_nil) (ht_bx rfl ht_nil) ?_
    rintro ⟨j, B⟩ ⟨hj, hB⟩ K2 hK2
    dsimp only [List.cons_append, List.nil_append] at hj hB ⊢
    refine JC_seq ?_
    refine JC_seq ?_
    refine JC_region ?_
    refine JL_pd rfl (det_move rfl) ?_
    refine JL_pd rfl (det_lss rfl rfl) ?_
    refine JL_nil ?_
    refine JE_seq ?_
    -- stop: cond
    refine JC_if rfl (fun h2 => ?_) (fun h2 => ?_)
    · have hj2 : j < 3 := by omega
      have hoff : 0 + i * 3 + j * 1 = i * 3 + j := by omega
      have hsd : sdOf (i * 3 + j) = ⟨(i : Int), (j : Int)⟩ := by unfold sdOf; rw [show (i * 3 + j) / 3 = i by omega, show (i * 3 + j) % 3 = j by omega]
      have hg : goalG m dg tg (i * 3 + j) = if dg = true then dangerB m ⟨(i : Int), (j : Int)⟩ else decide ((⟨(i : Int), (j : Int)⟩ : Sd) = tg) := by
        unfold goalG; rw [hsd, decide_eq_true (show (i : Int) < m.states from h1)]; rfl
      have hup : ∀ v : Bool, v = goalG m dg tg (i * 3 + j) → ∀ n, n < 24 → updW B (i * 3 + j) v n = if n < i * 3 + (j + 1) then goalG m dg tg n else false := fun v hv n hn => by
        show (if n = i * 3 + j then v else B n) = _
        by_cases e : n = i * 3 + j
        · subst e; rw [if_pos rfl, if_pos (by omega), hv]
        · rw [if_neg e, hB n hn]
          by_cases e2 : n < i * 3 + j
          · rw [if_pos e2, if_pos (by omega)]
          · rw [if_neg e2, if_neg (by omega)]
      cases dg with
      | true =>
        rw [if_pos rfl] at hg
        refine JC_skip ?_
        refine JE_seq ?_
        refine JC_seq ?_
        refine JC_block ?_
        refine JC_seq ?_
        refine JC_region ?_
        refine JL_pd rfl (det_move rfl) ?_
        refine JL_pd rfl (det_move rfl) ?_
        refine JL_pd rfl (det_build rfl (bld_53_0_1 _ _)) ?_
        refine JL_step rfl rfl rfl (jo_alloc0 Try.zeroValue53 rfl) fun b10 => ?_
        refine JL_step0 rfl rfl (jo_store rfl rfl rfl (by first | (simp only [splice_norm]; done) | (simp only [splice_norm]; rfl) | rfl) Try.sizeOf53 rfl rfl) fun _ => ?_
        refine JL_nil ?_
        refine JE_seq ?_
        refine JC_draw [19] (by kernel_rfl) ?_
        refine JA_pd (i := 0) rfl (by kernel_rfl) rfl rfl (det_move rfl) ?_
        refine JA_pd (i := 1) rfl (by kernel_rfl) rfl rfl (det_move rfl) ?_
        refine JA_pd (i := 2) rfl (by kernel_rfl) rfl rfl (det_move rfl) ?_
        refine JA_pd (i := 3) rfl (by kernel_rfl) rfl rfl (det_move rfl) ?_
        -- stop: guard 3
        refine JA_is (d0 := 27) true rfl (by rfl) (fun g1 => ?_)
        refine JA_gdt (i := 4) rfl (by kernel_rfl) (by kernel_rfl) rfl rfl rfl rfl g1 (det_loadKA rfl Try.isAgg26 Try.sizeOf26 rfl rfl) ?_
        refine JA_gdt (i := 5) rfl (by kernel_rfl) (by kernel_rfl) rfl rfl rfl rfl g1 (det_loadKA rfl Try.isAgg53 Try.sizeOf53 rfl rfl) ?_
        refine JA_pd (i := 17) rfl (by kernel_rfl) rfl rfl (det_indexArr (i := i) rfl rfl (by first | rfl | omega) (by omega) Try.runUnderlying45 Try.sizeOf43) ?_
        refine JA_gone (i := 6) (by kernel_rfl) rfl rfl rfl g1 rfl (jo_callv rfl rfl Try.call50 rfl (IsDanger_j m a ⟨(i : Int), (j : Int)⟩ (by omega))) (fun _ => ⟨hsub_refl, fun _ h => h⟩) fun _ => ?_
        refine JA_pd (i := 7) rfl (by kernel_rfl) rfl rfl (det_pick_t rfl g1 rfl) ?_
        refine JA_pd (i := 8) rfl (by kernel_rfl) rfl rfl (det_move rfl) ?_
        -- stop: guard 8
        refine JA_split (d0 := 32) rfl (fun k1 => ?_) (fun k1 => ?_)
        · skip
          refine JA_skip (i := 9) rfl (by kernel_rfl) rfl rfl rfl rfl k1 ?_
          refine JA_skip (i := 10) rfl (by kernel_rfl) rfl rfl rfl rfl k1 ?_
          refine JA_skip (i := 11) rfl (by kernel_rfl) rfl rfl rfl rfl k1 ?_
          refine JA_skipU (i := 12) rfl (by kernel_rfl) rfl rfl rfl rfl ?_
          refine JA_skipU (i := 13) rfl (by kernel_rfl) rfl rfl rfl rfl ?_
          refine JA_skipU (i := 14) rfl (by kernel_rfl) rfl rfl rfl rfl ?_
          refine JA_skip (i := 15) rfl (by kernel_rfl) rfl rfl rfl rfl k1 ?_
          refine JA_pd (i := 16) rfl (by kernel_rfl) rfl rfl (det_pick_t rfl k1 rfl) ?_
          refine JA_pd (i := 18) rfl (by kernel_rfl) rfl rfl (det_indexArr (i := j) rfl rfl (by first | rfl | omega) (by omega) Try.runUnderlying43 Try.sizeOf4) ?_
          refine JA_tail (i := 19) (by kernel_rfl) rfl rfl rfl rfl (jo_store (vs := [.bool true]) (cs := encW 24 B) (cs' := encW 24 (updW B (i * 3 + j) true)) rfl rfl rfl (by rw [hoff]; exact encW_set 24 _ _ _) Try.sizeOf4 (Nat.ble_eq_true_of_le (by rw [encW_len, hoff]; show _ + 1 ≤ 24; omega)) rfl) fun _ => ?_
          refine JT_done (by kernel_rfl) ?_
          refine JE_block ?_
          refine JE_seq ?_
          refine JC_region ?_
          refine JL_pd rfl (det_move rfl) ?_
          refine JL_pd rfl (det_add rfl rfl ⟨by omega, by omega⟩) ?_
          refine JL_pd rfl (det_assign rfl) ?_
          refine JL_nil ?_
          -- stop: end
          refine JE_roundF hK2 (j + 1, updW B (i * 3 + j) true) ⟨by simp only; omega, hup true (by rw [hg, k1])⟩ (by simp only; omega) (stsub_consI rfl (by simp only; omega) stsub_nil) (ht_bx rfl ht_nil)
        · skip
          refine JA_gpd (i := 9) rfl (by kernel_rfl) rfl rfl rfl rfl k1 (det_move rfl) ?_
          refine JA_gpd (i := 10) rfl (by kernel_rfl) rfl rfl rfl rfl k1 (det_not rfl) ?_
          refine JA_gpd (i := 11) rfl (by kernel_rfl) rfl rfl rfl rfl k1 (det_move rfl) ?_
          -- stop: guard 11
          refine JA_is (d0 := 35) false rfl (by rfl) (fun g2 => ?_)
          refine JA_skip (i := 12) rfl (by kernel_rfl) rfl rfl rfl rfl g2 ?_
          refine JA_skip (i := 13) rfl (by kernel_rfl) rfl rfl rfl rfl g2 ?_
          refine JA_skip (i := 14) rfl (by kernel_rfl) rfl rfl rfl rfl g2 ?_
          refine JA_gpd (i := 15) rfl (by kernel_rfl) rfl rfl rfl rfl k1 (det_pick_f rfl g2 rfl) ?_
          refine JA_pd (i := 16) rfl (by kernel_rfl) rfl rfl (det_pick_f rfl k1 rfl) ?_
          refine JA_pd (i := 18) rfl (by kernel_rfl) rfl rfl (det_indexArr (i := j) rfl rfl (by first | rfl | omega) (by omega) Try.runUnderlying43 Try.sizeOf4) ?_
          refine JA_tail (i := 19) (by kernel_rfl) rfl rfl rfl rfl (jo_store (vs := [.bool false]) (cs := encW 24 B) (cs' := encW 24 (updW B (i * 3 + j) false)) rfl rfl rfl (by rw [hoff]; exact encW_set 24 _ _ _) Try.sizeOf4 (Nat.ble_eq_true_of_le (by rw [encW_len, hoff]; show _ + 1 ≤ 24; omega)) rfl) fun _ => ?_
          refine JT_done (by kernel_rfl) ?_
          refine JE_block ?_
          refine JE_seq ?_
          refine JC_region ?_
          refine JL_pd rfl (det_move rfl) ?_
          refine JL_pd rfl (det_add rfl rfl ⟨by omega, by omega⟩) ?_
          refine JL_pd rfl (det_assign rfl) ?_
          refine JL_nil ?_
          -- stop: end
          refine JE_roundF hK2 (j + 1, updW B (i * 3 + j) false) ⟨by simp only; omega, hup false (by rw [hg, k1])⟩ (by simp only; omega) (stsub_consI rfl (by simp only; omega) stsub_nil) (ht_bx rfl ht_nil)
      | false =>
        rw [if_neg (by decide)] at hg
        refine JC_skip ?_
        refine JE_seq ?_
        refine JC_seq ?_
        refine JC_block ?_
        refine JC_seq ?_
        refine JC_region ?_
        refine JL_pd rfl (det_move rfl) ?_
        refine JL_pd rfl (det_move rfl) ?_
        refine JL_pd rfl (det_build rfl (bld_53_0_1 _ _)) ?_
        refine JL_step rfl rfl rfl (jo_alloc0 Try.zeroValue53 rfl) fun b10 => ?_
        refine JL_step0 rfl rfl (jo_store rfl rfl rfl (by first | (simp only [splice_norm]; done) | (simp only [splice_norm]; rfl) | rfl) Try.sizeOf53 rfl rfl) fun _ => ?_
        refine JL_nil ?_
        refine JE_seq ?_
        refine JC_draw [19] (by kernel_rfl) ?_
        refine JA_pd (i := 0) rfl (by kernel_rfl) rfl rfl (det_move rfl) ?_
        refine JA_pd (i := 1) rfl (by kernel_rfl) rfl rfl (det_move rfl) ?_
        refine JA_pd (i := 2) rfl (by kernel_rfl) rfl rfl (det_move rfl) ?_
        refine JA_pd (i := 3) rfl (by kernel_rfl) rfl rfl (det_move rfl) ?_
        -- stop: guard 3
        refine JA_is (d0 := 27) false rfl (by rfl) (fun g1 => ?_)
        refine JA_skip (i := 4) rfl (by kernel_rfl) rfl rfl rfl rfl g1 ?_
        refine JA_skip (i := 5) rfl (by kernel_rfl) rfl rfl rfl rfl g1 ?_
        refine JA_skip (i := 6) rfl (by kernel_rfl) rfl rfl rfl rfl g1 ?_
        refine JA_pd (i := 7) rfl (by kernel_rfl) rfl rfl (det_pick_f rfl g1 rfl) ?_
        refine JA_pd (i := 8) rfl (by kernel_rfl) rfl rfl (det_move rfl) ?_
        -- stop: guard 8
        refine JA_is (d0 := 32) false rfl (by rfl) (fun g2 => ?_)
        refine JA_gpd (i := 9) rfl (by kernel_rfl) rfl rfl rfl rfl g2 (det_move rfl) ?_
        refine JA_gpd (i := 10) rfl (by kernel_rfl) rfl rfl rfl rfl g2 (det_not rfl) ?_
        refine JA_gpd (i := 11) rfl (by kernel_rfl) rfl rfl rfl rfl g2 (det_move rfl) ?_
        -- stop: guard 11
        refine JA_is (d0 := 35) true rfl (by rfl) (fun g3 => ?_)
        refine JA_gdt (i := 12) rfl (by kernel_rfl) (by kernel_rfl) rfl rfl rfl rfl g3 (det_loadKA rfl Try.isAgg53 Try.sizeOf53 rfl rfl) ?_
        refine JA_gdt (i := 13) rfl (by kernel_rfl) (by kernel_rfl) rfl rfl rfl rfl g3 (det_loadKA rfl Try.isAgg53 Try.sizeOf53 rfl rfl) ?_
        refine JA_gpd (i := 14) rfl (by kernel_rfl) rfl rfl rfl rfl g3 (det_eqlA rfl rfl egt_53 (eqa_53 _ _ _ _)) ?_
        refine JA_gpd (i := 15) rfl (by kernel_rfl) rfl rfl rfl rfl g2 (det_pick_t rfl g3 rfl) ?_
        refine JA_pd (i := 16) rfl (by kernel_rfl) rfl rfl (det_pick_f rfl g2 rfl) ?_
        refine JA_pd (i := 17) rfl (by kernel_rfl) rfl rfl (det_indexArr (i := i) rfl rfl (by first | rfl | omega) (by omega) Try.runUnderlying45 Try.sizeOf43) ?_
        refine JA_pd (i := 18) rfl (by kernel_rfl) rfl rfl (det_indexArr (i := j) rfl rfl (by first | rfl | omega) (by omega) Try.runUnderlying43 Try.sizeOf4) ?_
        refine JA_tail (i := 19) (by kernel_rfl) rfl rfl rfl rfl (jo_store (vs := [.bool (decide ((i : Int) = tg.st ∧ (j : Int) = tg.sp))]) (cs := encW 24 B) (cs' := encW 24 (updW B (i * 3 + j) (decide ((i : Int) = tg.st ∧ (j : Int) = tg.sp)))) rfl rfl rfl (by rw [hoff]; exact encW_set 24 _ _ _) Try.sizeOf4 (Nat.ble_eq_true_of_le (by rw [encW_len, hoff]; show _ + 1 ≤ 24; omega)) rfl) fun _ => ?_
        refine JT_done (by kernel_rfl) ?_
        refine JE_block ?_
        refine JE_seq ?_
        refine JC_region ?_
        refine JL_pd rfl (det_move rfl) ?_
        refine JL_pd rfl (det_add rfl rfl ⟨by omega, by omega⟩) ?_
        refine JL_pd rfl (det_assign rfl) ?_
        refine JL_nil ?_
        -- stop: end
        refine JE_roundF hK2 (j + 1, updW B (i * 3 + j) (decide ((i : Int) = tg.st ∧ (j : Int) = tg.sp))) ⟨by simp only; omega, hup _ (by rw [hg]; exact decide_eq_decide.2 (Sd.ext' (a := ⟨(i : Int), (j : Int)⟩) (b := tg)).symm)⟩ (by simp only; omega) (stsub_consI rfl (by simp only; omega) stsub_nil) (ht_bx rfl ht_nil)
    · obtain rfl : j = 3 := by omega
      refine JC_exit ?_
      refine JE_seq_exit ?_
      refine JE_then_exit ?_
      refine JE_block_here ?_
      refine JE_block ?_
      refine JE_seq ?_
      refine JC_region ?_
      refine JL_pd rfl (det_move rfl) ?_
      refine JL_pd rfl (det_add rfl rfl ⟨by omega, by omega⟩) ?_
      refine JL_pd rfl (det_assign rfl) ?_
      refine JL_nil ?_
      -- stop: end
      refine JE_roundF hK (i + 1, B) ⟨by simp only; omega, fun n hn => by simp only; rw [hB n hn, Nat.add_mul, Nat.one_mul]⟩ (by simp only; omega) (stsub_consI rfl (by simp only; omega) stsub_nil) (ht_bx rfl ht_nil)
  · have hi3 : (i : Int) = m.states := by omega
    have hfin : ∀ n, n < 24 → A n = goalG m dg tg n := fun n hn => by
      rw [hA n hn]
      by_cases e : n < i * 3
      · rw [if_pos e]
      · rw [if_neg e]
        unfold goalG
        rw [decide_eq_false (by unfold sdOf; simp only; omega)]; rfl
    refine JC_exit ?_
    refine JE_seq_exit ?_
    refine JE_then_exit ?_
    refine JE_block_here ?_
    refine JE_seq ?_
    refine JC_seq ?_
    refine JC_region ?_
    refine JL_dt rfl (det_loadKA (vs := encW 24 (A)) rfl Try.isAgg45 Try.sizeOf45 (by rw [List.drop_zero]; exact List.take_of_length_le (by rw [encW_len]; decide)) (encW_len 24 _)) ?_
    refine JL_step0 rfl rfl (jo_store (vs := encW 24 (A)) rfl rfl rfl (splice_whole (by rw [encW_len]; rfl)) Try.sizeOf45 (Nat.ble_eq_true_of_le (by rw [encW_len]; decide)) (encW_cells 24 _)) fun _ => ?_
    refine JL_nil ?_
    refine JE_seq ?_
    refine JC_ret ?_
    -- stop: out
    refine JE_out (.inl rfl) () (results1 Try.results28 (res_box rfl Try.isAgg45 Try.sizeOf45 rfl)) (by show Value.agg (encW 24 A).toArray = _; rw [encW_congr hfin]; rfl) (List.Perm.refl _) (fun _ _ => trivial)
end Go.Proofs.Ytgbfjcgjcnndpaa

/- Walks of the reference for cycle: what can be; ways. -/
namespace Go.Proofs.Ytgbfjcgjcnndpaa
open Go.RowKit Go.Shelf

theorem levL_rch {m : Mc} {ls : List Lk} : ∀ {n : Nat} {t : Sd}, t ∈ levL m ls n → Rch m ls t
  | 0, t, h => by
    have := (List.mem_filter.1 h).2
    rw [decide_eq_true_eq] at this
    rw [this]; exact .zero
  | n + 1, t, h => by
    have := (List.mem_filter.1 h).2
    rw [Bool.or_eq_true, decide_eq_true_eq, List.any_eq_true] at this
    rcases this with h | ⟨s, hs, h⟩
    · exact levL_rch h
    · exact .step (levL_rch hs) (stpB_iff.1 h)
theorem mem_levL_succ {m : Mc} {ls : List Lk} {n : Nat} {j : Nat} (hj : j < 24) : sdOf j ∈ levL m ls (n + 1) ↔ sdOf j ∈ levL m ls n ∨ ∃ s ∈ levL m ls n, Stp m ls s (sdOf j) := by
  show _ ∈ growL m ls _ ↔ _
  unfold growL
  rw [List.mem_filter, Bool.or_eq_true, decide_eq_true_eq, List.any_eq_true]
  simp only [stpB_iff]
  exact ⟨fun h => h.2, fun h => ⟨List.mem_map.2 ⟨j, List.mem_range.2 hj, rfl⟩, h⟩⟩
theorem levL_same {m : Mc} {ls : List Lk} {n : Nat} (h : ∀ j, j < 24 → (sdOf j ∈ levL m ls (n + 1) ↔ sdOf j ∈ levL m ls n)) : levL m ls (n + 1) = levL m ls n := by
  obtain ⟨p, hp⟩ := levL_form m ls (n + 1)
  obtain ⟨q, hq⟩ := levL_form m ls n
  rw [hp, hq]
  refine List.filter_congr fun s hs => ?_
  obtain ⟨j, hj, rfl⟩ := List.mem_map.1 hs
  have := h j (List.mem_range.1 hj)
  rw [hp, hq, List.mem_filter, List.mem_filter] at this
  rw [Bool.eq_iff_iff]
  exact ⟨fun h1 => (this.1 ⟨hs, h1⟩).2, fun h1 => (this.2 ⟨hs, h1⟩).2⟩
/-- What is said of the rounds of the reference. -/
structure RchI (m : Mc) (ls : List Lk) (n : Nat) (A : Nat → Bool) : Prop where
  is : ∀ j, j < 24 → (A j = true ↔ sdOf j ∈ levL m ls n)
  lt : n ≤ 23
  new : ∀ k, k < n → levL m ls (k + 1) ≠ levL m ls k
theorem RchI.win {m : Mc} (V : Valid m) {ls : List Lk} {n : Nat} {A : Nat → Bool} (h : RchI m ls n A) : WIn m A := fun j hj hA => by
  obtain ⟨a, b, c, d⟩ := (levL_rch ((h.is j hj).1 hA)).inM V
  exact ⟨a, b, c, d⟩
theorem RchI.zero (m : Mc) (ls : List Lk) : RchI m ls 0 begW := ⟨fun j hj => by
  show decide (j = 0) = true ↔ _ ∈ all24.filter _
  rw [decide_eq_true_eq, List.mem_filter, decide_eq_true_eq]
  constructor
  · rintro rfl; exact ⟨by decide +kernel, rfl⟩
  · rintro ⟨_, h⟩
    have : ix (sdOf j) = 0 := by rw [h]; rfl
    rwa [ix_sd] at this, by omega, fun k hk => by omega⟩
/-- One round. -/
def moreW (m : Mc) (ls : List Lk) (A M : Nat → Bool) (g : Nat) : Prop := ∀ k, k < 24 → (M k = true ↔ A k = true ∨ ∃ g' : Nat, g' < g ∧ behW m ls A (g' : Int) k = true)
theorem moreW.step {m : Mc} {ls : List Lk} {A M : Nat → Bool} {g : Nat} (h : moreW m ls A M g) : moreW m ls A (uniW M (behW m ls A (g : Int))) (g + 1) := fun k hk => by
  show (M k || behW m ls A (g : Int) k) = true ↔ _
  rw [Bool.or_eq_true, h k hk]
  constructor
  · rintro ((h1 | ⟨g', h1, h2⟩) | h1)
    · exact .inl h1
    · exact .inr ⟨g', by omega, h2⟩
    · exact .inr ⟨g, by omega, h1⟩
  · rintro (h1 | ⟨g', h1, h2⟩)
    · exact .inl (.inl h1)
    · by_cases e : g' = g
      · subst e; exact .inr h2
      · exact .inl (.inr ⟨g', by omega, h2⟩)
theorem RchI.more {m : Mc} {ls : List Lk} {n : Nat} {A M : Nat → Bool} (h : RchI m ls n A) (hM : moreW m ls A M 8) (j : Nat) (hj : j < 24) : M j = true ↔ sdOf j ∈ levL m ls (n + 1) := by
  rw [hM j hj, mem_levL_succ hj, h.is j hj]
  refine or_congr Iff.rfl ⟨fun ⟨g, hg, h1⟩ => ?_, fun ⟨s, hs, g, hg, ht⟩ => ?_⟩
  · obtain ⟨i, hi, h2, h3⟩ := behW_iff.1 h1
    exact ⟨_, (h.is i hi).1 h2, g, hg, h3⟩
  · obtain ⟨i, hi, rfl⟩ := List.mem_map.1 (levL_all hs)
    have hi := List.mem_range.1 hi
    exact ⟨g, hg, behW_iff.2 ⟨i, hi, (h.is i hi).2 hs, ht⟩⟩
theorem RchI.stop {m : Mc} {ls : List Lk} {n : Nat} {A M : Nat → Bool} (h : RchI m ls n A) (hM : moreW m ls A M 8) (he : sameW M A = true) (j : Nat) (hj : j < 24) : A j = rchW m ls j := by
  have hs := levL_same (m := m) (ls := ls) (n := n) fun j hj => by rw [← h.more hM j hj, ← h.is j hj, sameW_iff.1 he j hj]
  have hf := levL_fix hs (24 - n)
  rw [show n + (24 - n) = 24 by have := h.lt; omega] at hf
  rw [Bool.eq_iff_iff, h.is j hj, ← hf]
  show _ ↔ decide (sdOf j ∈ levL m ls 24) = true
  rw [decide_eq_true_eq]
theorem RchI.next {m : Mc} {ls : List Lk} {n : Nat} {A M : Nat → Bool} (h : RchI m ls n A) (hM : moreW m ls A M 8) (he : sameW M A = false) : RchI m ls (n + 1) M := by
  have hne : levL m ls (n + 1) ≠ levL m ls n := fun e => by
    have : sameW M A = true := sameW_iff.2 fun j hj => by rw [Bool.eq_iff_iff, h.more hM j hj, h.is j hj, e]
    rw [he] at this; cases this
  have hnew : ∀ k, k < n + 1 → levL m ls (k + 1) ≠ levL m ls k := fun k hk => by
    by_cases e : k = n
    · subst e; exact hne
    · exact h.new k (by omega)
  have h1 := levL_len m ls (n + 1) hnew
  have h2 : (levL m ls (n + 1)).length ≤ all24.length := by
    obtain ⟨p, hp⟩ := levL_form m ls (n + 1)
    rw [hp]; exact List.length_filter_le _ _
  rw [len_all] at h2
  exact ⟨h.more hM, by omega, hnew⟩
theorem egtR : Try.prog.eqGuardType Try.prog.depth 45 = false := by kernel_rfl
set_option maxRecDepth 100000 in
theorem Reach_j (m : Mc) (a : MA) (ls : List Lk) (ka : Option Addr) (kc : Nat) (V : Valid m) (hl : ls.length ≤ 1000) : Cv Try.prog 25 [.agg #[I m.states, .slice a.sa m.steps.length a.sc, .slice a.ra m.running.length a.rc, .slice a.ka m.locks.length a.kc], .slice ka ls.length kc] (KAnd (KMc m a) (KSl ka ls.length kc encLk ls)) (evB (rchW m ls)) := by
  have hz := RchI.zero m ls
  have hfin : ∀ n A M, RchI m ls n A → moreW m ls A M 8 → sameW M A = true → encW 24 A = encW 24 (rchW m ls) := fun n A M h1 h2 h3 => encW_congr (h1.stop h2 h3)
  have hnx : ∀ n A M, RchI m ls n A → moreW m ls A M 8 → sameW M A = false → RchI m ls (n + 1) M := fun n A M h1 h2 h3 => h1.next h2 h3
  generalize rchW m ls = RW at hfin
  refine Cx_of Try.func25 rfl Try.ntmps25 rfl fun w0 M0 => ?_
  refine JC_seq ?_
  refine JC_region ?_
  refine JL_step rfl rfl rfl (jo_box rfl rfl) fun b2 => ?_
  refine JL_step rfl rfl rfl (jo_alloc0 Try.zeroValue45 rfl) fun b4 => ?_
  refine JL_nil ?_
  refine JE_seq ?_
  refine JC_seq ?_
  refine JC_region ?_
  refine JL_step rfl rfl rfl (jo_callv rfl rfl Try.call47 rfl (Begin_j)) fun _ => ?_
  refine JL_step rfl rfl rfl (jo_alloc0 Try.zeroValue45 rfl) fun b5 => ?_
  refine JL_step0 rfl rfl (jo_store (vs := encW 24 (begW)) rfl rfl rfl (splice_whole (by rw [encW_len]; rfl)) Try.sizeOf45 (Nat.ble_eq_true_of_le (by rw [encW_len]; decide)) (encW_cells 24 _)) fun _ => ?_
  refine JL_nil ?_
  refine JE_seq ?_
  refine JC_block ?_
  -- stop: loop
  refine JC_keep b2 noFp ?_
  refine JC_loopF (γ := Nat × (Nat → Bool)) (fun q => RchI m ls q.1 q.2) (fun _ => []) (fun q => [bx b5 (encW 24 q.2)]) (fun q => 24 - q.1) (0, begW) hz stsub_nil (ht_bx rfl ht_nil) ?_
  rintro ⟨n, A⟩ hR K hK
  dsimp only [List.cons_append, List.nil_append] at hR ⊢
  have hwin := hR.win V
  refine JC_block ?_
  refine JC_seq ?_
  refine JC_region ?_
  refine JL_dt rfl (det_loadKA (vs := encW 24 (A)) rfl Try.isAgg45 Try.sizeOf45 (by rw [List.drop_zero]; exact List.take_of_length_le (by rw [encW_len]; decide)) (encW_len 24 _)) ?_
  refine JL_step rfl rfl rfl (jo_alloc0 Try.zeroValue45 rfl) fun b6 => ?_
  refine JL_step0 rfl rfl (jo_store (vs := encW 24 (A)) rfl rfl rfl (splice_whole (by rw [encW_len]; rfl)) Try.sizeOf45 (Nat.ble_eq_true_of_le (by rw [encW_len]; decide)) (encW_cells 24 _)) fun _ => ?_
  refine JL_nil ?_
  refine JE_seq ?_
  refine JC_seq ?_
  refine JC_seq ?_
  refine JC_region ?_
  refine JL_pd rfl (det_assign rfl) ?_
  refine JL_nil ?_
  refine JE_seq ?_
  refine JC_block ?_
  -- stop: loop
  refine JC_loopF (γ := Nat × (Nat → Bool)) (fun q => q.1 ≤ 8 ∧ moreW m ls A q.2 q.1) (fun q => [(7, I q.1)]) (fun q => [bx b6 (encW 24 q.2)]) (fun q => 8 - q.1) (0, A) ⟨Nat.zero_le _, fun k _ => ⟨.inl, fun h => h.elim id fun ⟨_, h, _⟩ => by omega⟩⟩ (stsub_consI rfl rfl stsub_nil) (ht_bx rfl ht_nil) ?_
  rintro ⟨g, M⟩ ⟨hg, hM⟩ K2 hK2
  dsimp only [List.cons_append, List.nil_append] at hg hM ⊢
  refine JC_seq ?_
  refine JC_seq ?_
  refine JC_region ?_
  refine JL_pd rfl (det_move rfl) ?_
  refine JL_pd rfl (det_leq rfl rfl) ?_
  refine JL_nil ?_
  refine JE_seq ?_
  -- stop: cond
  refine JC_if rfl (fun h1 => ?_) (fun h1 => ?_)
  · have hg2 : g < 8 := by omega
    refine JC_skip ?_
    refine JE_seq ?_
    refine JC_seq ?_
    refine JC_block ?_
    refine JC_draw [7] (by kernel_rfl) ?_
    refine JA_dt (i := 0) rfl (by kernel_rfl) (by kernel_rfl) rfl rfl (det_loadKA (vs := encW 24 (M)) rfl Try.isAgg45 Try.sizeOf45 (by rw [List.drop_zero]; exact List.take_of_length_le (by rw [encW_len]; decide)) (encW_len 24 _)) ?_
    refine JA_dt (i := 1) rfl (by kernel_rfl) (by kernel_rfl) rfl rfl (det_loadKA rfl Try.isAgg26 Try.sizeOf26 rfl rfl) ?_
    refine JA_pd (i := 2) rfl (by kernel_rfl) rfl rfl (det_move rfl) ?_
    refine JA_dt (i := 3) rfl (by kernel_rfl) (by kernel_rfl) rfl rfl (det_loadKA (vs := encW 24 (A)) rfl Try.isAgg45 Try.sizeOf45 (by rw [List.drop_zero]; exact List.take_of_length_le (by rw [encW_len]; decide)) (encW_len 24 _)) ?_
    refine JA_pd (i := 4) rfl (by kernel_rfl) rfl rfl (det_move rfl) ?_
    refine JA_one (i := 5) (by kernel_rfl) rfl rfl (jo_callv rfl rfl Try.call48 rfl (Behind_j m a ls ka kc A (g : Int) V hl hwin (.inl (by omega)))) (fun _ => ⟨hsub_refl, fun _ h => h⟩) fun _ => ?_
    refine JA_one (i := 6) (by kernel_rfl) rfl rfl (jo_callv rfl rfl Try.call62 rfl (Union_j M (behW m ls A (g : Int)))) (fun _ => ⟨hsub_refl, fun _ h => h⟩) fun _ => ?_
    refine JA_tail (i := 7) (by kernel_rfl) rfl rfl rfl rfl (jo_store (vs := encW 24 (uniW M (behW m ls A (g : Int)))) rfl rfl rfl (splice_whole (by rw [encW_len, encW_len])) Try.sizeOf45 (Nat.ble_eq_true_of_le (by rw [encW_len, encW_len]; decide)) (encW_cells 24 _)) fun _ => ?_
    refine JT_done (by kernel_rfl) ?_
    refine JE_block ?_
    refine JE_seq ?_
    refine JC_region ?_
    refine JL_pd rfl (det_move rfl) ?_
    refine JL_pd rfl (det_add rfl rfl ⟨by omega, by omega⟩) ?_
    refine JL_pd rfl (det_assign rfl) ?_
    refine JL_nil ?_
    -- stop: end
    refine JE_roundF hK2 (g + 1, uniW M (behW m ls A (g : Int))) ⟨by simp only; omega, hM.step⟩ (by simp only; omega) (stsub_consI rfl (by simp only; omega) stsub_nil) (ht_bx rfl ht_nil)
  · obtain rfl : g = 8 := by omega
    refine JC_exit ?_
    refine JE_seq_exit ?_
    refine JE_then_exit ?_
    refine JE_block_here ?_
    refine JE_seq ?_
    refine JC_seq ?_
    refine JC_seq ?_
    refine JC_region ?_
    refine JL_dt rfl (det_loadKA (vs := encW 24 (M)) rfl Try.isAgg45 Try.sizeOf45 (by rw [List.drop_zero]; exact List.take_of_length_le (by rw [encW_len]; decide)) (encW_len 24 _)) ?_
    refine JL_dt rfl (det_loadKA (vs := encW 24 (A)) rfl Try.isAgg45 Try.sizeOf45 (by rw [List.drop_zero]; exact List.take_of_length_le (by rw [encW_len]; decide)) (encW_len 24 _)) ?_
    refine JL_pd rfl (det_eqlA rfl rfl egtR (eqW2 Try.underlying45 M A)) ?_
    refine JL_nil ?_
    refine JE_seq ?_
    -- stop: cond
    refine JC_cond rfl (fun h2 => ?_) (fun h2 => ?_)
    · skip
      refine JC_seq ?_
      refine JC_region ?_
      refine JL_dt rfl (det_loadKA (vs := encW 24 (A)) rfl Try.isAgg45 Try.sizeOf45 (by rw [List.drop_zero]; exact List.take_of_length_le (by rw [encW_len]; decide)) (encW_len 24 _)) ?_
      refine JL_step0 rfl rfl (jo_store (vs := encW 24 (A)) rfl rfl rfl (splice_whole (by rw [encW_len]; rfl)) Try.sizeOf45 (Nat.ble_eq_true_of_le (by rw [encW_len]; decide)) (encW_cells 24 _)) fun _ => ?_
      refine JL_nil ?_
      refine JE_seq ?_
      refine JC_ret ?_
      refine JE_seq_ret ?_
      refine JE_block_ret ?_
      refine JE_then_ret ?_
      refine JE_block_ret ?_
      -- stop: out
      refine JE_out (.inl rfl) () (results1 Try.results25 (res_box rfl Try.isAgg45 Try.sizeOf45 rfl)) (by show Value.agg (encW 24 A).toArray = _; rw [hfin _ _ _ hR hM h2]; rfl) (List.Perm.refl _) (fun _ _ => trivial)
    · skip
      have hlt := hR.lt
      refine JC_skip ?_
      refine JE_seq ?_
      refine JC_region ?_
      refine JL_dt rfl (det_loadKA (vs := encW 24 (M)) rfl Try.isAgg45 Try.sizeOf45 (by rw [List.drop_zero]; exact List.take_of_length_le (by rw [encW_len]; decide)) (encW_len 24 _)) ?_
      refine JL_step0 rfl rfl (jo_store (vs := encW 24 (M)) rfl rfl rfl (splice_whole (by rw [encW_len, encW_len])) Try.sizeOf45 (Nat.ble_eq_true_of_le (by rw [encW_len, encW_len]; decide)) (encW_cells 24 _)) fun _ => ?_
      refine JL_nil ?_
      refine JE_block ?_
      -- stop: end
      refine JE_roundF hK (n + 1, M) (hnx _ _ _ hR hM h2) (by simp only; omega) stsub_nil (ht_bx rfl ht_nil)
def nxI (m : Mc) (ls : List Lk) (W M : Nat → Bool) (g : Nat) : Prop := ∀ k, k < 24 → (M k = true ↔ ∃ g' : Nat, g' < g ∧ behW m ls W (g' : Int) k = true)
theorem nxI.step {m : Mc} {ls : List Lk} {A M : Nat → Bool} {g : Nat} (h : nxI m ls A M g) : nxI m ls A (uniW M (behW m ls A (g : Int))) (g + 1) := fun k hk => by
  show (M k || behW m ls A (g : Int) k) = true ↔ _
  rw [Bool.or_eq_true, h k hk]
  constructor
  · rintro (⟨g', h1, h2⟩ | h1)
    · exact ⟨g', by omega, h2⟩
    · exact ⟨g, by omega, h1⟩
  · rintro ⟨g', h1, h2⟩
    by_cases e : g' = g
    · subst e; exact .inr h2
    · exact .inl ⟨g', by omega, h2⟩
theorem nxI.done {m : Mc} {ls : List Lk} {W M : Nat → Bool} (h : nxI m ls W M 8) : encW 24 M = encW 24 (nxtW m ls W) := encW_congr fun k hk => by
  rw [Bool.eq_iff_iff, h k hk]
  simp only [nxtW, List.any_eq_true, List.mem_range]
set_option maxRecDepth 100000 in
theorem within_jR (m : Mc) (a : MA) (w : Nat → Bool) (goal : Sd → Bool) (k : Nat) (V : Valid m) (hw : WIn m w) (hk : k ≤ 1000) : Cv Try.prog 65 [.agg #[I m.states, .slice a.sa m.steps.length a.sc, .slice a.ra m.running.length a.rc, .slice a.ka m.locks.length a.kc], evB w, evB (fun j => goal (sdOf j)), I k] (KMc m a) (.bool (witW m m.locks goal k w)) := by
  have hlk := V.nl
  refine Cx_of Try.func65 rfl Try.ntmps65 rfl fun w0 M0 => ?_
  refine JC_seq ?_
  refine JC_region ?_
  refine JL_step rfl rfl rfl (jo_box rfl rfl) fun b4 => ?_
  refine JL_step rfl rfl rfl (jo_box rfl rfl) fun b5 => ?_
  refine JL_step rfl rfl rfl (jo_box rfl rfl) fun b6 => ?_
  refine JL_pd rfl (det_assign rfl) ?_
  refine JL_nil ?_
  refine JE_seq ?_
  refine JC_seq ?_
  refine JC_seq ?_
  refine JC_region ?_
  refine JL_pd rfl (det_assign rfl) ?_
  refine JL_nil ?_
  refine JE_seq ?_
  refine JC_block ?_
  -- stop: loop
  refine JC_keep b4 noFp ?_
  refine JC_keep b6 noFp ?_
  refine JC_loopF (γ := Nat × (Nat → Bool)) (fun q => q.1 ≤ k ∧ WIn m q.2 ∧ witW m m.locks goal (k - q.1) q.2 = witW m m.locks goal k w) (fun q => [(9, I q.1)]) (fun q => [bx b5 (encW 24 q.2)]) (fun q => k - q.1) (0, w) ⟨Nat.zero_le _, hw, rfl⟩ (stsub_consI rfl rfl stsub_nil) (ht_bx rfl ht_nil) ?_
  rintro ⟨i, W⟩ ⟨hi, hwin, hwit⟩ K hK
  dsimp only [List.cons_append, List.nil_append] at hi hwin hwit ⊢
  refine JC_seq ?_
  refine JC_seq ?_
  refine JC_region ?_
  refine JL_pd rfl (det_move rfl) ?_
  refine JL_pd rfl (det_move rfl) ?_
  refine JL_pd rfl (det_lss rfl rfl) ?_
  refine JL_nil ?_
  refine JE_seq ?_
  -- stop: cond
  refine JC_if rfl (fun h1 => ?_) (fun h1 => ?_)
  · have hi2 : i < k := by omega
    refine JC_skip ?_
    refine JE_seq ?_
    refine JC_seq ?_
    refine JC_block ?_
    refine JC_seq ?_
    refine JC_region ?_
    refine JL_step rfl rfl rfl (jo_alloc0 Try.zeroValue45 rfl) fun b10 => ?_
    refine JL_nil ?_
    refine JE_seq ?_
    refine JC_seq ?_
    refine JC_seq ?_
    refine JC_region ?_
    refine JL_pd rfl (det_assign rfl) ?_
    refine JL_nil ?_
    refine JE_seq ?_
    refine JC_block ?_
    -- stop: loop
    refine JC_loopF (γ := Nat × (Nat → Bool)) (fun q => q.1 ≤ 8 ∧ nxI m m.locks W q.2 q.1) (fun q => [(11, I q.1)]) (fun q => [bx b10 (encW 24 q.2)]) (fun q => 8 - q.1) (0, fun _ => false) ⟨Nat.zero_le _, fun k _ => ⟨(fun h => by cases h), fun ⟨_, h, _⟩ => by omega⟩⟩ (stsub_consI rfl rfl stsub_nil) (ht_bx rfl ht_nil) ?_
    rintro ⟨g, M⟩ ⟨hg, hM⟩ K2 hK2
    dsimp only [List.cons_append, List.nil_append] at hg hM ⊢
    refine JC_seq ?_
    refine JC_seq ?_
    refine JC_region ?_
    refine JL_pd rfl (det_move rfl) ?_
    refine JL_pd rfl (det_leq rfl rfl) ?_
    refine JL_nil ?_
    refine JE_seq ?_
    -- stop: cond
    refine JC_if rfl (fun h2 => ?_) (fun h2 => ?_)
    · have hg2 : g < 8 := by omega
      refine JC_skip ?_
      refine JE_seq ?_
      refine JC_seq ?_
      refine JC_block ?_
      refine JC_draw [8] (by kernel_rfl) ?_
      refine JA_dt (i := 0) rfl (by kernel_rfl) (by kernel_rfl) rfl rfl (det_loadKA (vs := encW 24 (M)) rfl Try.isAgg45 Try.sizeOf45 (by rw [List.drop_zero]; exact List.take_of_length_le (by rw [encW_len]; decide)) (encW_len 24 _)) ?_
      refine JA_dt (i := 1) rfl (by kernel_rfl) (by kernel_rfl) rfl rfl (det_loadKA rfl Try.isAgg26 Try.sizeOf26 rfl rfl) ?_
      refine JA_pd (i := 2) rfl (by kernel_rfl) rfl rfl (det_fieldAddr rfl fo_26_3) ?_
      refine JA_dt (i := 3) rfl (by kernel_rfl) (by kernel_rfl) rfl rfl (det_loadK rfl Try.isAgg24 rfl) ?_
      refine JA_dt (i := 4) rfl (by kernel_rfl) (by kernel_rfl) rfl rfl (det_loadKA (vs := encW 24 (W)) rfl Try.isAgg45 Try.sizeOf45 (by rw [List.drop_zero]; exact List.take_of_length_le (by rw [encW_len]; decide)) (encW_len 24 _)) ?_
      refine JA_pd (i := 5) rfl (by kernel_rfl) rfl rfl (det_move rfl) ?_
      refine JA_one (i := 6) (by kernel_rfl) rfl rfl (jo_callv rfl rfl Try.call48 rfl (Behind_j m a m.locks a.ka a.kc W (g : Int) V (by omega) hwin (.inl (by omega)))) (fun _ => ⟨hsub_refl, fun _ h => h⟩) fun _ => ?_
      refine JA_one (i := 7) (by kernel_rfl) rfl rfl (jo_callv rfl rfl Try.call62 rfl (Union_j M (behW m m.locks W (g : Int)))) (fun _ => ⟨hsub_refl, fun _ h => h⟩) fun _ => ?_
      refine JA_tail (i := 8) (by kernel_rfl) rfl rfl rfl rfl (jo_store (vs := encW 24 (uniW M (behW m m.locks W (g : Int)))) rfl rfl rfl (splice_whole (by rw [encW_len, encW_len])) Try.sizeOf45 (Nat.ble_eq_true_of_le (by rw [encW_len, encW_len]; decide)) (encW_cells 24 _)) fun _ => ?_
      refine JT_done (by kernel_rfl) ?_
      refine JE_block ?_
      refine JE_seq ?_
      refine JC_region ?_
      refine JL_pd rfl (det_move rfl) ?_
      refine JL_pd rfl (det_add rfl rfl ⟨by omega, by omega⟩) ?_
      refine JL_pd rfl (det_assign rfl) ?_
      refine JL_nil ?_
      -- stop: end
      refine JE_roundF hK2 (g + 1, uniW M (behW m m.locks W (g : Int))) ⟨by simp only; omega, hM.step⟩ (by simp only; omega) (stsub_consI rfl (by simp only; omega) stsub_nil) (ht_bx rfl ht_nil)
    · obtain rfl : g = 8 := by omega
      refine JC_exit ?_
      refine JE_seq_exit ?_
      refine JE_then_exit ?_
      refine JE_block_here ?_
      refine JE_seq ?_
      refine JC_region ?_
      refine JL_dt rfl (det_loadKA (vs := encW 24 (M)) rfl Try.isAgg45 Try.sizeOf45 (by rw [List.drop_zero]; exact List.take_of_length_le (by rw [encW_len]; decide)) (encW_len 24 _)) ?_
      refine JL_step0 rfl rfl (jo_store (vs := encW 24 (M)) rfl rfl rfl (splice_whole (by rw [encW_len, encW_len])) Try.sizeOf45 (Nat.ble_eq_true_of_le (by rw [encW_len, encW_len]; decide)) (encW_cells 24 _)) fun _ => ?_
      refine JL_nil ?_
      refine JE_block ?_
      refine JE_seq ?_
      refine JC_region ?_
      refine JL_pd rfl (det_move rfl) ?_
      refine JL_pd rfl (det_add rfl rfl ⟨by omega, by omega⟩) ?_
      refine JL_pd rfl (det_assign rfl) ?_
      refine JL_nil ?_
      -- stop: end
      refine JE_roundF hK (i + 1, nxtW m m.locks W) ⟨by simp only; omega, nxtW_in V hwin, ?_⟩ (by simp only; omega) (stsub_consI rfl (by simp only; omega) stsub_nil) (ht_bx hM.done ht_nil)
      rw [← hwit, show k - i = (k - (i + 1)) + 1 by omega]
      rfl
  · obtain rfl : i = k := by omega
    rw [Nat.sub_self] at hwit
    refine JC_exit ?_
    refine JE_seq_exit ?_
    refine JE_then_exit ?_
    refine JE_block_here ?_
    refine JE_seq ?_
    refine JC_seq ?_
    refine JC_region ?_
    refine JL_dt rfl (det_loadKA (vs := encW 24 (W)) rfl Try.isAgg45 Try.sizeOf45 (by rw [List.drop_zero]; exact List.take_of_length_le (by rw [encW_len]; decide)) (encW_len 24 _)) ?_
    refine JL_dt rfl (det_loadKA (vs := encW 24 (fun j => goal (sdOf j))) rfl Try.isAgg45 Try.sizeOf45 (by rw [List.drop_zero]; exact List.take_of_length_le (by rw [encW_len]; decide)) (encW_len 24 _)) ?_
    refine JL_step rfl rfl rfl (jo_callv rfl rfl Try.call87 rfl (meets_j W (fun j => goal (sdOf j)))) fun _ => ?_
    refine JL_pd rfl (det_assign rfl) ?_
    refine JL_nil ?_
    refine JE_seq ?_
    refine JC_ret ?_
    -- stop: out
    refine JE_out (.inl rfl) () (results1 Try.results65 (res_tmp rfl)) (by rw [← hwit]; rfl) (List.Perm.refl _) (fun _ _ => trivial)
end Go.Proofs.Ytgbfjcgjcnndpaa

/- Walks of the reference for cycle: a shortest way. -/
namespace Go.Proofs.Ytgbfjcgjcnndpaa
open Go.RowKit Go.Shelf

theorem wit_some {m : Mc} (V : Valid m) {goal : Sd → Bool} {k : Nat} {w : Nat → Bool} (h : WIn m w) (hw : witW m m.locks goal (k + 1) w = true) : ∃ g, g < 8 ∧ witW m m.locks goal k (behW m m.locks w ((g : Nat) : Int)) = true := by
  obtain ⟨j, hj, h1, h2⟩ := (witW_iff V h).1 hw
  generalize hs : sdOf j = s at h2
  cases h2 with
  | @step _ _ t hst hp =>
    subst hs
    obtain ⟨g, hg, ht⟩ := hst
    refine ⟨g, hg, (witW_iff V (behW_in V h)).2 ?_⟩
    have hin := (next_in V (h j hj h1) ht).ix V
    exact ⟨ix t, hin.1, behW_iff.2 ⟨j, hj, h1, by rw [hin.2]; exact ht⟩, by rw [hin.2]; exact hp⟩
theorem wayO_none {m : Mc} {ls : List Lk} {goal : Sd → Bool} (h : ∀ j, j < 25 → witW m ls goal j begW = false) : wayO m ls goal = none := by
  have : longO m ls goal = none := List.find?_eq_none.2 fun k hk => by rw [h k (List.mem_range.1 hk)]; exact Bool.false_ne_true
  unfold wayO
  rw [this]; rfl
theorem wayO_some {m : Mc} {ls : List Lk} {goal : Sd → Bool} {k : Nat} (hk : k < 25) (h1 : witW m ls goal k begW = true) (h : ∀ j, j < k → witW m ls goal j begW = false) : wayO m ls goal = some (wayL m ls goal k begW) := by
  have : longO m ls goal = some k := find_range hk h1 h
  unfold wayO
  rw [this]; rfl
set_option maxRecDepth 100000 in
set_option maxHeartbeats 1000000 in
theorem RWay_j (m : Mc) (a : MA) (goal : Sd → Bool) (V : Valid m) : Cr Try.prog 27 [.agg #[I m.states, .slice a.sa m.steps.length a.sc, .slice a.ra m.running.length a.rc, .slice a.ka m.locks.length a.kc], evB (fun j => goal (sdOf j))] (KMc m a) (fun q : Option Addr × Nat => .tuple #[.slice q.1 ((wayO m m.locks goal).getD []).length q.2, .bool (wayO m m.locks goal).isSome]) (fun q => KSl q.1 ((wayO m m.locks goal).getD []).length q.2 encI ((wayO m m.locks goal).getD [])) := by
  have hlk := V.nl
  have hN : (∀ j, j < 25 → witW m m.locks goal j begW = false) → wayO m m.locks goal = none := wayO_none
  have hS : ∀ k, k < 25 → witW m m.locks goal k begW = true → (∀ j, j < k → witW m m.locks goal j begW = false) → wayO m m.locks goal = some (wayL m m.locks goal k begW) := fun k h1 h2 h3 => wayO_some h1 h2 h3
  have hwith := fun (w : Nat → Bool) (k : Nat) (h1 : WIn m w) (h2 : k ≤ 1000) => within_jR m a w goal k V h1 h2
  generalize wayO m m.locks goal = O at hN hS
  refine Cx_of Try.func27 rfl Try.ntmps27 rfl fun w0 M0 => ?_
  refine JC_seq ?_
  refine JC_region ?_
  refine JL_step rfl rfl rfl (jo_box rfl rfl) fun b2 => ?_
  refine JL_step rfl rfl rfl (jo_box rfl rfl) fun b3 => ?_
  refine JL_pd rfl (det_assign rfl) ?_
  refine JL_pd rfl (det_assign rfl) ?_
  refine JL_nil ?_
  refine JE_seq ?_
  refine JC_seq ?_
  refine JC_seq ?_
  refine JC_region ?_
  refine JL_pd rfl (det_assign rfl) ?_
  refine JL_nil ?_
  refine JE_seq ?_
  refine JC_block ?_
  -- stop: loop
  refine JC_keep b2 noFp ?_
  refine JC_keep b3 noFp ?_
  refine JC_loopF (γ := Nat) (fun i => i ≤ 25 ∧ ∀ j, j < i → witW m m.locks goal j begW = false) (fun i => [(6, I i)]) (fun _ => []) (fun i => 25 - i) 0 ⟨Nat.zero_le _, fun _ h => by omega⟩ (stsub_consI rfl rfl stsub_nil) ht_nil ?_
  rintro i ⟨hi, hno⟩ K hK
  dsimp only [List.cons_append, List.nil_append]
  refine JC_seq ?_
  refine JC_seq ?_
  refine JC_region ?_
  refine JL_pd rfl (det_move rfl) ?_
  refine JL_pd rfl (det_leq rfl rfl) ?_
  refine JL_nil ?_
  refine JE_seq ?_
  -- stop: cond
  refine JC_if rfl (fun h1 => ?_) (fun h1 => ?_)
  · have hi2 : i < 25 := by omega
    refine JC_skip ?_
    refine JE_seq ?_
    refine JC_seq ?_
    refine JC_block ?_
    refine JC_seq ?_
    refine JC_seq ?_
    refine JC_draw [] (by kernel_rfl) ?_
    refine JA_dt (i := 0) rfl (by kernel_rfl) (by kernel_rfl) rfl rfl (det_loadKA rfl Try.isAgg26 Try.sizeOf26 rfl rfl) ?_
    refine JA_dt (i := 2) rfl (by kernel_rfl) (by kernel_rfl) rfl rfl (det_loadKA (vs := encW 24 (fun j => goal (sdOf j))) rfl Try.isAgg45 Try.sizeOf45 (by rw [List.drop_zero]; exact List.take_of_length_le (by rw [encW_len]; decide)) (encW_len 24 _)) ?_
    refine JA_pd (i := 3) rfl (by kernel_rfl) rfl rfl (det_move rfl) ?_
    refine JA_one (i := 1) (by kernel_rfl) rfl rfl (jo_callv rfl rfl Try.call47 rfl (Begin_j)) (fun _ => ⟨hsub_refl, fun _ h => h⟩) fun _ => ?_
    refine JA_one (i := 4) (by kernel_rfl) rfl rfl (jo_callv rfl rfl Try.call65 rfl (hwith begW i (begW_in V) (by omega))) (fun _ => ⟨hsub_refl, fun _ h => h⟩) fun _ => ?_
    refine JA_pd (i := 5) rfl (by kernel_rfl) rfl rfl (det_not rfl) ?_
    refine JA_done (by kernel_rfl) ?_
    refine JE_seq ?_
    -- stop: cond
    refine JC_cond rfl (fun h2 => ?_) (fun h2 => ?_)
    · have h2' : witW m m.locks goal i begW = false := by simpa using h2
      refine JC_exit ?_
      refine JE_seq_exit ?_
      refine JE_block_here ?_
      refine JE_seq ?_
      refine JC_region ?_
      refine JL_pd rfl (det_move rfl) ?_
      refine JL_pd rfl (det_add rfl rfl ⟨by omega, by omega⟩) ?_
      refine JL_pd rfl (det_assign rfl) ?_
      refine JL_nil ?_
      -- stop: end
      refine JE_roundF hK (i + 1) ⟨by omega, fun j hj => ?_⟩ (by omega) (stsub_consI rfl (by omega) stsub_nil) ht_nil
      by_cases e : j = i
      · subst e; exact h2'
      · exact hno j (by omega)
    · have h2' : witW m m.locks goal i begW = true := by simpa using h2
      have hO := hS i hi2 h2' hno
      generalize hfull : wayL m m.locks goal i begW = full at hO
      subst hO
      refine JC_skip ?_
      refine JE_seq ?_
      refine JC_seq ?_
      refine JC_region ?_
      refine JL_pd rfl (det_assign rfl) ?_
      refine JL_nil ?_
      refine JE_seq ?_
      refine JC_seq ?_
      refine JC_region ?_
      refine JL_step rfl rfl rfl (jo_callv rfl rfl Try.call47 rfl (Begin_j)) fun _ => ?_
      refine JL_step rfl rfl rfl (jo_alloc0 Try.zeroValue45 rfl) fun b8 => ?_
      refine JL_step0 rfl rfl (jo_store (vs := encW 24 (begW)) rfl rfl rfl (splice_whole (by rw [encW_len]; rfl)) Try.sizeOf45 (Nat.ble_eq_true_of_le (by rw [encW_len]; decide)) (encW_cells 24 _)) fun _ => ?_
      refine JL_nil ?_
      refine JE_seq ?_
      refine JC_seq ?_
      refine JC_block ?_
      -- stop: loop
      refine JC_nil 3 1 ?_
      refine JC_loopF (γ := WaySt) (fun q => q.k + q.os.length = i ∧ WIn m q.w ∧ witW m m.locks goal q.k q.w = true ∧ q.os ++ wayL m m.locks goal q.k q.w = full) (fun q => [(7, .slice q.na q.os.length q.nc)]) (fun q => [bx b8 (encW 24 q.w), ow (.slice q.na q.os.length q.nc) 3 1 q.os.length (q.os.flatMap encI)]) (fun q => q.k) ⟨i, begW, .nilFunc, [], none, 0, []⟩
        ⟨rfl, begW_in V, h2', hfull⟩ (stsub_cons rfl stsub_nil) (ht_bx rfl (ht_ow rfl rfl ht_nil)) ?_
      rintro ⟨k, w, u, os, na, nc, ns⟩ ⟨hlen, hwin, hwit, hall⟩ K2 hK2
      dsimp only [List.cons_append, List.nil_append] at hlen hwin hwit hall ⊢
      refine JC_seq ?_
      refine JC_seq ?_
      refine JC_region ?_
      refine JL_pd rfl (det_move rfl) ?_
      refine JL_pd rfl (det_len rfl Try.runUnderlying23) ?_
      refine JL_pd rfl (det_move rfl) ?_
      refine JL_pd rfl (det_lss rfl rfl) ?_
      refine JL_nil ?_
      refine JE_seq ?_
      -- stop: cond
      refine JC_if rfl (fun h3 => ?_) (fun h3 => ?_)
      · obtain ⟨k', rfl⟩ : ∃ k', k = k' + 1 := ⟨k - 1, by omega⟩
        refine JC_skip ?_
        refine JE_seq ?_
        refine JC_block ?_
        refine JC_seq ?_
        refine JC_region ?_
        refine JL_pd rfl (det_assign rfl) ?_
        refine JL_nil ?_
        refine JE_seq ?_
        refine JC_block ?_
        -- stop: loop
        refine JC_loopF (γ := Nat) (fun g => g ≤ 8 ∧ ∀ j : Nat, j < g → witW m m.locks goal k' (behW m m.locks w (j : Int)) = false) (fun g => [(9, I g)]) (fun _ => []) (fun g => 8 - g) 0 ⟨Nat.zero_le _, fun _ h => by omega⟩ (stsub_consI rfl rfl stsub_nil) ht_nil ?_
        rintro g ⟨hg, hng⟩ K3 hK3
        dsimp only [List.cons_append, List.nil_append]
        refine JC_seq ?_
        refine JC_seq ?_
        refine JC_region ?_
        refine JL_pd rfl (det_move rfl) ?_
        refine JL_pd rfl (det_leq rfl rfl) ?_
        refine JL_nil ?_
        refine JE_seq ?_
        -- stop: cond
        refine JC_if rfl (fun h4 => ?_) (fun h4 => ?_)
        · have hg2 : g < 8 := by omega
          have hbin := behW_in V (ls := m.locks) (g := (g : Int)) hwin
          have hwk := hwith (behW m m.locks w (g : Int)) k' hbin (by omega)
          rw [show ((k' : Nat) : Int) = (i : Int) - (os.length : Int) - 1 by omega] at hwk
          refine JC_skip ?_
          refine JE_seq ?_
          refine JC_seq ?_
          refine JC_block ?_
          refine JC_seq ?_
          refine JC_region ?_
          refine JL_dt rfl (det_loadKA rfl Try.isAgg26 Try.sizeOf26 rfl rfl) ?_
          refine JL_pd rfl (det_fieldAddr rfl fo_26_3) ?_
          refine JL_dt rfl (det_loadK rfl Try.isAgg24 rfl) ?_
          refine JL_dt rfl (det_loadKA (vs := encW 24 (w)) rfl Try.isAgg45 Try.sizeOf45 (by rw [List.drop_zero]; exact List.take_of_length_le (by rw [encW_len]; decide)) (encW_len 24 _)) ?_
          refine JL_pd rfl (det_move rfl) ?_
          refine JL_step rfl rfl rfl (jo_callv rfl rfl Try.call48 rfl (Behind_j m a m.locks a.ka a.kc w (g : Int) V (by omega) hwin (.inl (by omega)))) fun _ => ?_
          refine JL_step rfl rfl rfl (jo_alloc0 Try.zeroValue45 rfl) fun b10 => ?_
          refine JL_step0 rfl rfl (jo_store (vs := encW 24 (behW m m.locks w (g : Int))) rfl rfl rfl (splice_whole (by rw [encW_len]; rfl)) Try.sizeOf45 (Nat.ble_eq_true_of_le (by rw [encW_len]; decide)) (encW_cells 24 _)) fun _ => ?_
          refine JL_nil ?_
          refine JE_seq ?_
          refine JC_seq ?_
          refine JC_region ?_
          refine JL_dt rfl (det_loadKA rfl Try.isAgg26 Try.sizeOf26 rfl rfl) ?_
          refine JL_dt rfl (det_loadKA (vs := encW 24 (behW m m.locks w (g : Int))) rfl Try.isAgg45 Try.sizeOf45 (by rw [List.drop_zero]; exact List.take_of_length_le (by rw [encW_len]; decide)) (encW_len 24 _)) ?_
          refine JL_dt rfl (det_loadKA (vs := encW 24 (fun j => goal (sdOf j))) rfl Try.isAgg45 Try.sizeOf45 (by rw [List.drop_zero]; exact List.take_of_length_le (by rw [encW_len]; decide)) (encW_len 24 _)) ?_
          refine JL_pd rfl (det_move rfl) ?_
          refine JL_pd rfl (det_move rfl) ?_
          refine JL_pd rfl (det_len rfl Try.runUnderlying23) ?_
          refine JL_pd rfl (det_sub rfl rfl ⟨by omega, by omega⟩) ?_
          refine JL_pd rfl (det_sub rfl rfl ⟨by omega, by omega⟩) ?_
          refine JL_step rfl rfl rfl (jo_callv rfl rfl Try.call65 rfl (hwk)) fun _ => ?_
          refine JL_nil ?_
          refine JE_seq ?_
          -- stop: cond
          refine JC_cond rfl (fun h5 => ?_) (fun h5 => ?_)
          · have hwl := wayL_hit (ls := m.locks) (goal := goal) (w := w) hg2 h5 hng
            rw [hwl] at hall
            refine JC_keep b10 noFp ?_
            refine JC_seq ?_
            -- stop: draw
            refine JC_cutF (γ := Nat × Nat) (fun _ => True) (fun q => [(7, .slice (some ⟨q.1, 0, none⟩) (os.length + 1) q.2)]) (fun q => [bx b8 (encW 24 (behW m m.locks w (g : Int))), ow (.slice (some ⟨q.1, 0, none⟩) (os.length + 1) q.2) 3 1 (os.length + 1) (os.flatMap encI ++ [I g])]) [] (fun K hK => ?_) (fun q _ => ?_)
            · refine JC_draw [3, 6] (by kernel_rfl) ?_
              refine JA_pd (i := 0) rfl (by kernel_rfl) rfl rfl (det_move rfl) ?_
              refine JA_pd (i := 1) rfl (by kernel_rfl) rfl rfl (det_move rfl) ?_
              refine JA_ready (rs := [2, 4]) (by kernel_rfl) rfl ?_
              refine JAl_cons (i := 2) rfl rfl (jo_buildSlice rfl (bsl_23_1_0 _)) (fun _ => ⟨hsub_drop 1 rfl, fun _ h => h⟩) (fun b47 => ?_) ?_
              · refine JA_ready (rs := [3, 4]) (by kernel_rfl) rfl ?_
                refine JAl_consT (i := 3) rfl rfl rfl rfl (jo_append el_23 rfl rfl rfl rfl (by omega)) (fun b48 => ?_) ?_
                · refine JT_pd (i := 5) rfl (by kernel_rfl) rfl rfl (det_assign rfl) ?_
                  refine JT_one (i := 4) (by kernel_rfl) rfl rfl (Det.jo (det_loadKA (vs := encW 24 (behW m m.locks w (g : Int))) rfl Try.isAgg45 Try.sizeOf45 (by rw [List.drop_zero]; exact List.take_of_length_le (by rw [encW_len]; decide)) (encW_len 24 _)) (by intro c h; cases h)) fun _ => ?_
                  refine JT_one (i := 6) (by kernel_rfl) rfl rfl (jo_store (vs := encW 24 (behW m m.locks w (g : Int))) rfl rfl rfl (splice_whole (by rw [encW_len, encW_len])) Try.sizeOf45 (Nat.ble_eq_true_of_le (by rw [encW_len, encW_len]; decide)) (encW_cells 24 _)) fun _ => ?_
                  refine JT_done (by kernel_rfl) ?_
                  exact JE_cutF hK b48 trivial (stsub_cons rfl stsub_nil) (ht_bx rfl (ht_ow rfl rfl ht_nil))
                refine JAl_cons (i := 4) rfl rfl (Det.jo (det_loadKA (vs := encW 24 (behW m m.locks w (g : Int))) rfl Try.isAgg45 Try.sizeOf45 (by rw [List.drop_zero]; exact List.take_of_length_le (by rw [encW_len]; decide)) (encW_len 24 _)) (by intro c h; cases h)) (fun _ => ⟨hsub_refl, fun _ h => h⟩) (fun _ => ?_) ?_
                · refine JA_tail (i := 3) (by kernel_rfl) rfl rfl rfl rfl (jo_append el_23 rfl rfl rfl rfl (by omega)) fun b48 => ?_
                  refine JT_pd (i := 5) rfl (by kernel_rfl) rfl rfl (det_assign rfl) ?_
                  refine JT_one (i := 6) (by kernel_rfl) rfl rfl (jo_store (vs := encW 24 (behW m m.locks w (g : Int))) rfl rfl rfl (splice_whole (by rw [encW_len, encW_len])) Try.sizeOf45 (Nat.ble_eq_true_of_le (by rw [encW_len, encW_len]; decide)) (encW_cells 24 _)) fun _ => ?_
                  refine JT_done (by kernel_rfl) ?_
                  exact JE_cutF hK b48 trivial (stsub_cons rfl stsub_nil) (ht_bx rfl (ht_ow rfl rfl ht_nil))
                exact JAl_nil
              refine JAl_cons (i := 4) rfl rfl (Det.jo (det_loadKA (vs := encW 24 (behW m m.locks w (g : Int))) rfl Try.isAgg45 Try.sizeOf45 (by rw [List.drop_zero]; exact List.take_of_length_le (by rw [encW_len]; decide)) (encW_len 24 _)) (by intro c h; cases h)) (fun _ => ⟨hsub_refl, fun _ h => h⟩) (fun _ => ?_) ?_
              · refine JA_one (i := 2) (by kernel_rfl) rfl rfl (jo_buildSlice rfl (bsl_23_1_0 _)) (fun _ => ⟨hsub_drop 1 rfl, fun _ h => h⟩) fun b47 => ?_
                refine JA_tail (i := 3) (by kernel_rfl) rfl rfl rfl rfl (jo_append el_23 rfl rfl rfl rfl (by omega)) fun b48 => ?_
                refine JT_pd (i := 5) rfl (by kernel_rfl) rfl rfl (det_assign rfl) ?_
                refine JT_one (i := 6) (by kernel_rfl) rfl rfl (jo_store (vs := encW 24 (behW m m.locks w (g : Int))) rfl rfl rfl (splice_whole (by rw [encW_len, encW_len])) Try.sizeOf45 (Nat.ble_eq_true_of_le (by rw [encW_len, encW_len]; decide)) (encW_cells 24 _)) fun _ => ?_
                refine JT_done (by kernel_rfl) ?_
                exact JE_cutF hK b48 trivial (stsub_cons rfl stsub_nil) (ht_bx rfl (ht_ow rfl rfl ht_nil))
              exact JAl_nil
            dsimp only [List.cons_append, List.nil_append]
            refine JC_exit ?_
            refine JE_block_on rfl ?_
            refine JE_seq_exit ?_
            refine JE_then_exit ?_
            refine JE_block_here ?_
            refine JE_block ?_
            -- stop: end
            refine JE_roundF hK2 ⟨k', behW m m.locks w (g : Int), .nilFunc, os ++ [(g : Int)], some ⟨q.1, 0, none⟩, q.2, []⟩ ⟨by simp only [List.length_append, List.length_singleton]; omega, hbin, h5, by simpa using hall⟩ (by simp only; omega) (stsub_cons (by simp only [List.length_append, List.length_singleton]; rfl) stsub_nil) (ht_bx rfl (ht_conse (c := ow (.slice (some ⟨q.1, 0, none⟩) (os.length + 1) q.2) 3 1 (os.length + 1) (os.flatMap encI ++ [I g])) (by simp [encI]) ht_nil))
          · refine JC_skip ?_
            refine JE_block ?_
            refine JE_seq ?_
            refine JC_region ?_
            refine JL_pd rfl (det_move rfl) ?_
            refine JL_pd rfl (det_add rfl rfl ⟨by omega, by omega⟩) ?_
            refine JL_pd rfl (det_assign rfl) ?_
            refine JL_nil ?_
            -- stop: end
            refine JE_roundF hK3 (g + 1) ⟨by omega, fun j hj => ?_⟩ (by omega) (stsub_consI rfl (by omega) stsub_nil) ht_nil
            by_cases e : j = g
            · subst e; exact h5
            · exact hng j (by omega)
        · obtain rfl : g = 8 := by omega
          obtain ⟨g, hg8, hgw⟩ := wit_some V hwin hwit
          rw [hng g hg8] at hgw
          cases hgw
      · obtain rfl : k = 0 := by omega
        have hos : os = full := by simpa [wayL] using hall
        subst hos
        refine JC_slice (enc := encI) (v := .slice na os.length nc) os noFp rfl rfl ?_
        rintro av cv hv
        cases hv
        refine JC_exit ?_
        refine JE_seq_exit ?_
        refine JE_then_exit ?_
        refine JE_block_here ?_
        refine JE_seq ?_
        refine JC_seq ?_
        refine JC_region ?_
        refine JL_pd rfl (det_move rfl) ?_
        refine JL_pd rfl (det_assign rfl) ?_
        refine JL_pd rfl (det_assign rfl) ?_
        refine JL_nil ?_
        refine JE_seq ?_
        refine JC_ret ?_
        refine JE_block_ret ?_
        refine JE_seq_ret ?_
        refine JE_then_ret ?_
        refine JE_block_ret ?_
        refine JE_seq_ret ?_
        -- stop: out
        refine JE_out (.inl rfl) (na, nc) (results2 Try.results27 (res_tmp rfl) (res_tmp rfl)) rfl (List.Perm.refl _) (fun w h => h.1)
  · obtain rfl : i = 25 := by omega
    have hO := hN hno
    subst hO
    refine JC_exit ?_
    refine JE_seq_exit ?_
    refine JE_then_exit ?_
    refine JE_block_here ?_
    refine JE_seq ?_
    refine JC_seq ?_
    refine JC_region ?_
    refine JL_pd rfl (det_assign rfl) ?_
    refine JL_pd rfl (det_assign rfl) ?_
    refine JL_nil ?_
    refine JE_seq ?_
    refine JC_ret ?_
    -- stop: out
    refine JE_out (.inl rfl) (none, 0) (results2 Try.results27 (res_tmp rfl) (res_tmp rfl)) rfl (List.Perm.refl _) (fun w _ => KSl_none w)
end Go.Proofs.Ytgbfjcgjcnndpaa

/- Walks of the laws of cycle: copies, what is thin, what is the same. -/
namespace Go.Proofs.Ytgbfjcgjcnndpaa
open Go.RowKit Go.Shelf

theorem snoc_len {α : Type} {l : List α} {i : Nat} (h : i < l.length) : (l.take i).length + 1 = (l.take (i + 1)).length := by rw [take_snoc h, List.length_append]; rfl
theorem snoc_flat {α : Type} (e : α → List Value) {l : List α} {i : Nat} (h : i < l.length) : (l.take i).flatMap e ++ e l[i] = (l.take (i + 1)).flatMap e := by rw [take_snoc h, List.flatMap_append, List.flatMap_cons, List.flatMap_nil, List.append_nil]
theorem encI_one (y : Int) : (encI y).all (·.oneCell') = true := rfl
theorem lList_j (xs : List Int) (a : Option Addr) (cap : Nat) (hx : xs.length ≤ 1000000) : Cr Try.prog 35 [.slice a xs.length cap] (KSl a xs.length cap encI xs) (fun q : Option Addr × Nat => .slice q.1 xs.length q.2) (fun q => KSl q.1 xs.length q.2 encI xs) := by
  refine Cx_of Try.func35 rfl Try.ntmps35 rfl fun w0 M0 => ?_
  refine JC_seq ?_
  refine JC_region ?_
  refine JL_pd rfl (det_assign rfl) ?_
  refine JL_nil ?_
  refine JE_seq ?_
  refine JC_seq ?_
  refine JC_region ?_
  refine JL_step rfl rfl rfl (jo_buildOwn (z := 1) rfl (bsl_23_0) rfl (by decide)) fun b3 => ?_
  refine JL_pd rfl (det_move rfl) ?_
  -- stop: op  2 t5 := (call (Call (builtin append) (t3 t4) (23 23)))   <0 1>   12
  refine JL_step rfl rfl rfl (jo_appendK (e := encI) el_23 rfl rfl encI_one (by simpa using hx)) fun v => ?_
  refine JL_pd rfl (det_assign rfl) ?_
  refine JL_nil ?_
  refine JE_seq ?_
  refine JC_ret ?_
  -- stop: out
  refine JE_slice (enc := encI) (v := v) xs noFp (by simp) (by simp) ?_
  rintro a' cap' h
  subst h
  simp only [Nat.zero_add]
  refine JE_out (.inl rfl) (a', cap') (results1 Try.results35 (res_tmp rfl)) rfl (List.Perm.refl _) (fun w h => h.1)
set_option maxRecDepth 100000 in
theorem lLocks_j (ls : List Lk) (ka : Option Addr) (kc : Nat) (hl : ls.length ≤ 1000) : Cr Try.prog 58 [.slice ka ls.length kc] (KSl ka ls.length kc encLk ls) (fun q : Option Addr × Nat => .slice q.1 ls.length q.2) (fun q => KSl q.1 ls.length q.2 encLk ls) := by
  refine Cx_of Try.func58 rfl Try.ntmps58 rfl fun w0 M0 => ?_
  refine JC_seq ?_
  refine JC_region ?_
  refine JL_pd rfl (det_assign rfl) ?_
  refine JL_nil ?_
  refine JE_seq ?_
  refine JC_seq ?_
  refine JC_region ?_
  refine JL_pd rfl (det_assign rfl) ?_
  refine JL_nil ?_
  refine JE_seq ?_
  refine JC_seq ?_
  refine JC_seq ?_
  refine JC_region ?_
  refine JL_pd rfl (det_assign rfl) ?_
  refine JL_nil ?_
  refine JE_seq ?_
  refine JC_block ?_
  -- stop: loop
  refine JC_nil 62 2 ?_
  refine JC_loopF (γ := Nat × Value) (fun q => q.1 ≤ ls.length) (fun q => [(4, I q.1), (3, q.2)]) (fun q => [ow q.2 62 2 (ls.take q.1).length ((ls.take q.1).flatMap encLk)]) (fun q => ls.length - q.1) (0, .slice none 0 0) (Nat.zero_le _) (stsub_consI rfl rfl (stsub_cons rfl stsub_nil)) (ht_ow rfl rfl ht_nil) ?_
  rintro ⟨i, v⟩ hi K hK
  dsimp only [List.cons_append, List.nil_append] at hi ⊢
  have hln : (ls.take i).length = i := by rw [List.length_take]; omega
  refine JC_seq ?_
  refine JC_seq ?_
  refine JC_region ?_
  refine JL_pd rfl (det_move rfl) ?_
  refine JL_pd rfl (det_move rfl) ?_
  refine JL_pd rfl (det_len rfl Try.runUnderlying24) ?_
  refine JL_pd rfl (det_lss rfl rfl) ?_
  refine JL_nil ?_
  refine JE_seq ?_
  -- stop: cond
  refine JC_if rfl (fun h1 => ?_) (fun h1 => ?_)
  · have hi2 : i < ls.length := by omega
    refine JC_skip ?_
    refine JE_seq ?_
    refine JC_seq ?_
    refine JC_block ?_
    refine JC_draw [13] (by kernel_rfl) ?_
    refine JA_pd (i := 0) rfl (by kernel_rfl) rfl rfl (det_move rfl) ?_
    refine JA_pd (i := 1) rfl (by kernel_rfl) rfl rfl (det_move rfl) ?_
    refine JA_pd (i := 2) rfl (by kernel_rfl) rfl rfl (det_move rfl) ?_
    refine JA_dt (i := 3) rfl (by kernel_rfl) (by kernel_rfl) rfl rfl (det_indexAddr rfl rfl (by first | rfl | omega) (by first | assumption | omega | decide) Try.runUnderlying24 Try.sizeOf63) ?_
    refine JA_pd (i := 4) rfl (by kernel_rfl) rfl rfl (det_fieldAddrE rfl fo_63_0) ?_
    refine JA_dt (i := 5) rfl (by kernel_rfl) (by kernel_rfl) rfl rfl (det_loadEk rfl (by first | assumption | omega | decide) Try.isAgg3 rfl rfl) ?_
    refine JA_pd (i := 6) rfl (by kernel_rfl) rfl rfl (det_move rfl) ?_
    refine JA_pd (i := 7) rfl (by kernel_rfl) rfl rfl (det_move rfl) ?_
    refine JA_dt (i := 8) rfl (by kernel_rfl) (by kernel_rfl) rfl rfl (det_indexAddr rfl rfl (by first | rfl | omega) (by first | assumption | omega | decide) Try.runUnderlying24 Try.sizeOf63) ?_
    refine JA_pd (i := 9) rfl (by kernel_rfl) rfl rfl (det_fieldAddrE rfl fo_63_1) ?_
    refine JA_dt (i := 10) rfl (by kernel_rfl) (by kernel_rfl) rfl rfl (det_loadEk rfl (by first | assumption | omega | decide) Try.isAgg3 rfl rfl) ?_
    refine JA_pd (i := 11) rfl (by kernel_rfl) rfl rfl (det_build rfl (bld_62_0_1 _ _)) ?_
    refine JA_one (i := 12) (by kernel_rfl) rfl rfl (jo_buildSlice rfl (bsl_32_1_0 _ _)) (fun _ => ⟨hsub_drop 1 rfl, fun _ h => h⟩) fun b23 => ?_
    refine JA_tail (i := 13) (by kernel_rfl) rfl rfl rfl rfl (jo_append el_32 rfl rfl rfl rfl (by omega)) fun b24 => ?_
    refine JT_pd (i := 14) rfl (by kernel_rfl) rfl rfl (det_assign rfl) ?_
    refine JT_done (by kernel_rfl) ?_
    refine JE_block ?_
    refine JE_seq ?_
    refine JC_region ?_
    refine JL_pd rfl (det_move rfl) ?_
    refine JL_pd rfl (det_add rfl rfl ⟨by omega, by omega⟩) ?_
    refine JL_pd rfl (det_assign rfl) ?_
    refine JL_nil ?_
    -- stop: end
    refine JE_roundF hK (i + 1, .slice (some ⟨b24.1, 0, none⟩) ((ls.take i).length + 1) b24.2) (by simp only; omega) (by simp only; omega) (stsub_consI rfl (by simp only; omega) (stsub_cons rfl stsub_nil)) (ht_ow (snoc_len hi2) (snoc_flat encLk hi2) ht_nil)
  · obtain rfl : i = ls.length := by omega
    rw [List.take_length]
    refine JC_slice (enc := encLk) (v := v) ls noFp rfl rfl ?_
    rintro av cv rfl
    refine JC_exit ?_
    refine JE_seq_exit ?_
    refine JE_then_exit ?_
    refine JE_block_here ?_
    refine JE_seq ?_
    refine JC_seq ?_
    refine JC_region ?_
    refine JL_pd rfl (det_move rfl) ?_
    refine JL_pd rfl (det_assign rfl) ?_
    refine JL_nil ?_
    refine JE_seq ?_
    refine JC_ret ?_
    -- stop: out
    refine JE_out (.inl rfl) (av, cv) (results1 Try.results58 (res_tmp rfl)) rfl (List.Perm.refl _) (fun w h => h.1)
set_option maxRecDepth 100000 in
theorem Machine_j (m : Mc) (a : MA) (h1 : m.steps.length ≤ 1000) (h2 : m.running.length ≤ 1000) (h3 : m.locks.length ≤ 1000) : Cr Try.prog 20 [.agg #[I m.states, .slice a.sa m.steps.length a.sc, .slice a.ra m.running.length a.rc, .slice a.ka m.locks.length a.kc]] (KMc m a) (fun b : MA => .agg #[I m.states, .slice b.sa m.steps.length b.sc, .slice b.ra m.running.length b.rc, .slice b.ka m.locks.length b.kc]) (fun b => KMc m b) := by
  refine Cx_of Try.func20 rfl Try.ntmps20 rfl fun w0 M0 => ?_
  refine JC_seq ?_
  refine JC_region ?_
  refine JL_step rfl rfl rfl (jo_box rfl rfl) fun b1 => ?_
  refine JL_step rfl rfl rfl (jo_alloc0 Try.zeroValue34 rfl) fun b2 => ?_
  refine JL_nil ?_
  refine JE_seq ?_
  refine JC_seq ?_
  -- stop: draw
  refine JC_keep b1 noFp ?_
  refine JC_cutK (γ := Nat × (Option Addr × Nat) × (Option Addr × Nat)) (fun _ => True) (fun (b3, x10, x13) => [(3, pt b3)]) (fun (b3, x10, x13) => [bx b3 [I m.states, .slice none 0 0, .slice x10.1 m.running.length x10.2, .slice x13.1 m.locks.length x13.2]]) (fun (b3, x10, x13) => KAnd (KSl x10.1 m.running.length x10.2 encI m.running) (KSl x13.1 m.locks.length x13.2 encLk m.locks)) [bx b2 [I 0, .slice none 0 0, .slice none 0 0, .slice none 0 0]] (fun K hK => ?_) (fun (b3, x10, x13) _ => ?_)
  · refine JC_draw [10] (by kernel_rfl) ?_
    refine JA_pd (i := 0) rfl (by kernel_rfl) rfl rfl (det_fieldAddr rfl fo_26_0) ?_
    refine JA_dt (i := 1) rfl (by kernel_rfl) (by kernel_rfl) rfl rfl (det_loadK rfl Try.isAgg3 rfl) ?_
    refine JA_pd (i := 2) rfl (by kernel_rfl) rfl rfl (det_fieldAddr rfl fo_26_2) ?_
    refine JA_dt (i := 3) rfl (by kernel_rfl) (by kernel_rfl) rfl rfl (det_loadK rfl Try.isAgg23 rfl) ?_
    refine JA_pd (i := 5) rfl (by kernel_rfl) rfl rfl (det_fieldAddr rfl fo_26_3) ?_
    refine JA_dt (i := 6) rfl (by kernel_rfl) (by kernel_rfl) rfl rfl (det_loadK rfl Try.isAgg24 rfl) ?_
    refine JA_ready (rs := [4, 9]) (by kernel_rfl) rfl ?_
    refine JAl_cons (i := 4) rfl rfl (jo_call rfl rfl Try.call35 rfl (lList_j m.running a.ra a.rc (by omega))) (fun _ => ⟨hsub_drop 0 rfl, fun _ h => h.2⟩) (fun x10 => ?_) ?_
    · refine JA_ready (rs := [7, 9]) (by kernel_rfl) rfl ?_
      refine JAl_cons (i := 7) rfl rfl (jo_call rfl rfl Try.call58 rfl (lLocks_j m.locks a.ka a.kc h3)) (fun _ => ⟨hsub_drop 0 rfl, fun _ h => h.2⟩) (fun x13 => ?_) ?_
      · refine JA_pd (i := 8) rfl (by kernel_rfl) rfl rfl (det_build rfl (bld_34_0_2_3 _ _ _ _ _ _ _)) ?_
        refine JA_one (i := 9) (by kernel_rfl) rfl rfl (jo_alloc0 Try.zeroValue34 rfl) (fun _ => ⟨hsub_drop 1 rfl, fun _ h => h⟩) fun b3 => ?_
        refine JA_tail (i := 10) (by kernel_rfl) rfl rfl rfl rfl (jo_store rfl rfl rfl (by first | (simp only [splice_norm]; done) | (simp only [splice_norm]; rfl) | rfl) Try.sizeOf34 rfl rfl) fun _ => ?_
        refine JT_done (by kernel_rfl) ?_
        exact JE_cutK hK (b3, x10, x13) trivial (stsub_cons rfl stsub_nil) (ht_bx rfl ht_nil)
      refine JAl_cons (i := 9) rfl rfl (jo_alloc0 Try.zeroValue34 rfl) (fun _ => ⟨hsub_drop 1 rfl, fun _ h => h⟩) (fun b3 => ?_) ?_
      · refine JA_one (i := 7) (by kernel_rfl) rfl rfl (jo_call rfl rfl Try.call58 rfl (lLocks_j m.locks a.ka a.kc h3)) (fun _ => ⟨hsub_drop 0 rfl, fun _ h => h.2⟩) fun x13 => ?_
        refine JA_pd (i := 8) rfl (by kernel_rfl) rfl rfl (det_build rfl (bld_34_0_2_3 _ _ _ _ _ _ _)) ?_
        refine JA_tail (i := 10) (by kernel_rfl) rfl rfl rfl rfl (jo_store rfl rfl rfl (by first | (simp only [splice_norm]; done) | (simp only [splice_norm]; rfl) | rfl) Try.sizeOf34 rfl rfl) fun _ => ?_
        refine JT_done (by kernel_rfl) ?_
        exact JE_cutK hK (b3, x10, x13) trivial (stsub_cons rfl stsub_nil) (ht_bx rfl ht_nil)
      exact JAl_nil
    refine JAl_cons (i := 9) rfl rfl (jo_alloc0 Try.zeroValue34 rfl) (fun _ => ⟨hsub_drop 1 rfl, fun _ h => h⟩) (fun b3 => ?_) ?_
    · refine JA_one (i := 4) (by kernel_rfl) rfl rfl (jo_call rfl rfl Try.call35 rfl (lList_j m.running a.ra a.rc (by omega))) (fun _ => ⟨hsub_drop 0 rfl, fun _ h => h.2⟩) fun x10 => ?_
      refine JA_one (i := 7) (by kernel_rfl) rfl rfl (jo_call rfl rfl Try.call58 rfl (lLocks_j m.locks a.ka a.kc h3)) (fun _ => ⟨hsub_drop 0 rfl, fun _ h => h.2⟩) fun x13 => ?_
      refine JA_pd (i := 8) rfl (by kernel_rfl) rfl rfl (det_build rfl (bld_34_0_2_3 _ _ _ _ _ _ _)) ?_
      refine JA_tail (i := 10) (by kernel_rfl) rfl rfl rfl rfl (jo_store rfl rfl rfl (by first | (simp only [splice_norm]; done) | (simp only [splice_norm]; rfl) | rfl) Try.sizeOf34 rfl rfl) fun _ => ?_
      refine JT_done (by kernel_rfl) ?_
      exact JE_cutK hK (b3, x10, x13) trivial (stsub_cons rfl stsub_nil) (ht_bx rfl ht_nil)
    exact JAl_nil
  dsimp only [List.cons_append, List.nil_append]
  refine JC_seq ?_
  refine JC_seq ?_
  refine JC_region ?_
  refine JL_pd rfl (det_assign rfl) ?_
  refine JL_nil ?_
  refine JE_seq ?_
  refine JC_block ?_
  -- stop: loop
  refine JC_nil 94 3 ?_
  refine JC_loopF (γ := Nat × Value) (fun q => q.1 ≤ m.steps.length) (fun q => [(4, I q.1)]) (fun q => [bx b3 [I m.states, q.2, .slice x10.1 m.running.length x10.2, .slice x13.1 m.locks.length x13.2], ow q.2 94 3 (m.steps.take q.1).length ((m.steps.take q.1).flatMap encSp)]) (fun q => m.steps.length - q.1) (0, .slice none 0 0) (Nat.zero_le _) (stsub_consI rfl rfl stsub_nil) (ht_bx rfl (ht_ow rfl rfl ht_nil)) ?_
  rintro ⟨i, v⟩ hi K hK
  dsimp only [List.cons_append, List.nil_append] at hi ⊢
  have hln : (m.steps.take i).length = i := by rw [List.length_take]; omega
  refine JC_seq ?_
  refine JC_seq ?_
  refine JC_region ?_
  refine JL_pd rfl (det_move rfl) ?_
  refine JL_pd rfl (det_fieldAddr rfl fo_26_1) ?_
  refine JL_dt rfl (det_loadK rfl Try.isAgg22 rfl) ?_
  refine JL_pd rfl (det_len rfl Try.runUnderlying22) ?_
  refine JL_pd rfl (det_lss rfl rfl) ?_
  refine JL_nil ?_
  refine JE_seq ?_
  -- stop: cond
  refine JC_if rfl (fun h4 => ?_) (fun h4 => ?_)
  · have hi2 : i < m.steps.length := by omega
    refine JC_skip ?_
    refine JE_seq ?_
    refine JC_seq ?_
    refine JC_block ?_
    refine JC_seq ?_
    refine JC_region ?_
    refine JL_pd rfl (det_fieldAddr rfl fo_26_1) ?_
    refine JL_dt rfl (det_loadK rfl Try.isAgg22 rfl) ?_
    refine JL_pd rfl (det_move rfl) ?_
    refine JL_dt rfl (det_indexAddr rfl rfl (by first | rfl | omega) (by first | assumption | omega | decide) Try.runUnderlying22 Try.sizeOf70) ?_
    refine JL_dt rfl (det_loadEA rfl (by first | assumption | omega | decide) Try.isAgg70 Try.sizeOf70 rfl rfl rfl) ?_
    refine JL_step rfl rfl rfl (jo_alloc0 Try.zeroValue70 rfl) fun b5 => ?_
    refine JL_step0 rfl rfl (jo_store rfl rfl rfl (by first | (simp only [splice_norm]; done) | (simp only [splice_norm]; rfl) | rfl) Try.sizeOf70 rfl rfl) fun _ => ?_
    refine JL_nil ?_
    refine JE_seq ?_
    refine JC_region ?_
    refine JL_pd rfl (det_fieldAddr rfl fo_34_1) ?_
    refine JL_dt rfl (det_loadK rfl Try.isAgg31 rfl) ?_
    refine JL_pd rfl (det_fieldAddr rfl fo_70_0) ?_
    refine JL_dt rfl (det_loadK rfl Try.isAgg3 rfl) ?_
    refine JL_pd rfl (det_fieldAddr rfl fo_70_1) ?_
    refine JL_dt rfl (det_loadK rfl Try.isAgg3 rfl) ?_
    refine JL_pd rfl (det_fieldAddr rfl fo_70_2) ?_
    refine JL_dt rfl (det_loadK rfl Try.isAgg3 rfl) ?_
    refine JL_pd rfl (det_build rfl (bld_94_0_1_2 _ _ _)) ?_
    refine JL_step rfl rfl rfl (jo_buildSlice rfl (bsl_31_1_0 _ _ _)) fun b36 => ?_
    refine JL_step rfl rfl rfl (jo_append el_31 rfl rfl rfl rfl (by omega)) fun b37 => ?_
    refine JL_pd rfl (det_fieldAddr rfl fo_34_1) ?_
    refine JL_step0 rfl rfl (jo_store rfl rfl rfl (by first | (simp only [splice_norm]; done) | (simp only [splice_norm]; rfl) | rfl) Try.sizeOf31 rfl rfl) fun _ => ?_
    refine JL_nil ?_
    refine JE_block ?_
    refine JE_seq ?_
    refine JC_region ?_
    refine JL_pd rfl (det_move rfl) ?_
    refine JL_pd rfl (det_add rfl rfl ⟨by omega, by omega⟩) ?_
    refine JL_pd rfl (det_assign rfl) ?_
    refine JL_nil ?_
    -- stop: end
    refine JE_roundF hK (i + 1, .slice (some ⟨b37.1, 0, none⟩) ((m.steps.take i).length + 1) b37.2) (by simp only; omega) (by simp only; omega) (stsub_consI rfl (by simp only; omega) stsub_nil) (ht_bx rfl (ht_ow (snoc_len hi2) (snoc_flat encSp hi2) ht_nil))
  · obtain rfl : i = m.steps.length := by omega
    rw [List.take_length]
    refine JC_slice (enc := encSp) (v := v) m.steps noFp rfl rfl ?_
    rintro av cv rfl
    refine JC_exit ?_
    refine JE_seq_exit ?_
    refine JE_then_exit ?_
    refine JE_block_here ?_
    refine JE_seq ?_
    refine JC_seq ?_
    refine JC_region ?_
    refine JL_dt rfl (det_loadKA rfl Try.isAgg34 Try.sizeOf34 rfl rfl) ?_
    refine JL_step0 rfl rfl (jo_store rfl rfl rfl (by first | (simp only [splice_norm]; done) | (simp only [splice_norm]; rfl) | rfl) Try.sizeOf34 rfl rfl) fun _ => ?_
    refine JL_nil ?_
    refine JE_seq ?_
    refine JC_ret ?_
    -- stop: out
    refine JE_out (.inl rfl) (⟨av, x10.1, x13.1, cv, x10.2, x13.2⟩ : MA) (results1 Try.results20 (res_box rfl Try.isAgg34 Try.sizeOf34 rfl)) rfl (List.Perm.refl _) (fun w h => Knows.know w h)
def thinB (m : Mc) : Bool := decide (m.steps.length ≤ 30) && decide (m.locks.length ≤ 45) && decide (m.running.length ≤ 12)
theorem Thin_j (m : Mc) (a : MA) : Cv Try.prog 17 [.agg #[I m.states, .slice a.sa m.steps.length a.sc, .slice a.ra m.running.length a.rc, .slice a.ka m.locks.length a.kc]] KTrue (.bool (thinB m)) := by
  refine Cx_of Try.func17 rfl Try.ntmps17 rfl fun w0 M0 => ?_
  refine JC_seq ?_
  refine JC_region ?_
  refine JL_step rfl rfl rfl (jo_box rfl rfl) fun b1 => ?_
  refine JL_pd rfl (det_assign rfl) ?_
  refine JL_nil ?_
  refine JE_seq ?_
  refine JC_seq ?_
  refine JC_region ?_
  refine JL_pd rfl (det_fieldAddr rfl fo_26_1) ?_
  refine JL_dt rfl (det_loadK rfl Try.isAgg22 rfl) ?_
  refine JL_pd rfl (det_len rfl Try.runUnderlying22) ?_
  refine JL_pd rfl (det_leq rfl rfl) ?_
  refine JL_pd rfl (det_move rfl) ?_
  -- stop: guard 4
  refine JL_join1 11 18 (.bool (decide ((m.steps.length : Int) ≤ 30) && decide ((m.locks.length : Int) ≤ 45) && decide ((m.running.length : Int) ≤ 12))) (fun hj => ?_) ?_
  · refine JL_split (d0 := 7) rfl (fun q1 => ?_) (fun q1 => ?_)
    · refine JL_guard rfl rfl q1 ?_
      refine JL_pd rfl (det_fieldAddr rfl fo_26_3) ?_
      refine JL_guard rfl rfl q1 ?_
      refine JL_dt rfl (det_loadK rfl Try.isAgg24 rfl) ?_
      refine JL_guard rfl rfl q1 ?_
      refine JL_pd rfl (det_len rfl Try.runUnderlying24) ?_
      refine JL_guard rfl rfl q1 ?_
      refine JL_pd rfl (det_leq rfl rfl) ?_
      refine JL_pd rfl (det_pick_t rfl q1 rfl) ?_
      refine JL_pd rfl (det_move rfl) ?_
      refine JL_split (d0 := 13) rfl (fun q2 => ?_) (fun q2 => ?_)
      · refine JL_guard rfl rfl q2 ?_
        refine JL_pd rfl (det_fieldAddr rfl fo_26_2) ?_
        refine JL_guard rfl rfl q2 ?_
        refine JL_dt rfl (det_loadK rfl Try.isAgg23 rfl) ?_
        refine JL_guard rfl rfl q2 ?_
        refine JL_pd rfl (det_len rfl Try.runUnderlying23) ?_
        refine JL_guard rfl rfl q2 ?_
        refine JL_pd rfl (det_leq rfl rfl) ?_
        refine JL_pd rfl (det_pick_t rfl q2 rfl) ?_
        exact hj (by kernel_rfl) (stsub_consB rfl (by clear hj; first | rfl | (simp only [q1, q2, Bool.and_true, Bool.true_and, Bool.false_and, Bool.and_false, Bool.or_true, Bool.true_or, Bool.or_false, Bool.false_or, Bool.not_true, Bool.not_false]; done) | (simp [q1, q2]; done) | (simp at q1; done) | (simp at q2; done) | (simp [q1, q2] <;> omega) | (exfalso; simp at q1 q2; omega) | (simp [q2] at q1; done) | (simp [q1] at q2; done)) stsub_nil)
      · refine JL_skip rfl rfl q2 rfl ?_
        refine JL_skip rfl rfl q2 rfl ?_
        refine JL_skip rfl rfl q2 rfl ?_
        refine JL_skip rfl rfl q2 rfl ?_
        refine JL_pd rfl (det_pick_f rfl q2 rfl) ?_
        exact hj (by kernel_rfl) (stsub_consB rfl (by clear hj; first | rfl | (simp only [q1, q2, Bool.and_true, Bool.true_and, Bool.false_and, Bool.and_false, Bool.or_true, Bool.true_or, Bool.or_false, Bool.false_or, Bool.not_true, Bool.not_false]; done) | (simp [q1, q2]; done) | (simp at q1; done) | (simp at q2; done) | (simp [q1, q2] <;> omega) | (exfalso; simp at q1 q2; omega) | (simp [q2] at q1; done) | (simp [q1] at q2; done)) stsub_nil)
    · refine JL_skip rfl rfl q1 rfl ?_
      refine JL_skip rfl rfl q1 rfl ?_
      refine JL_skip rfl rfl q1 rfl ?_
      refine JL_skip rfl rfl q1 rfl ?_
      refine JL_pd rfl (det_pick_f rfl q1 rfl) ?_
      refine JL_pd rfl (det_move rfl) ?_
      refine JL_split (d0 := 13) rfl (fun q3 => ?_) (fun q3 => ?_)
      · refine JL_guard rfl rfl q3 ?_
        refine JL_pd rfl (det_fieldAddr rfl fo_26_2) ?_
        refine JL_guard rfl rfl q3 ?_
        refine JL_dt rfl (det_loadK rfl Try.isAgg23 rfl) ?_
        refine JL_guard rfl rfl q3 ?_
        refine JL_pd rfl (det_len rfl Try.runUnderlying23) ?_
        refine JL_guard rfl rfl q3 ?_
        refine JL_pd rfl (det_leq rfl rfl) ?_
        refine JL_pd rfl (det_pick_t rfl q3 rfl) ?_
        exact hj (by kernel_rfl) (stsub_consB rfl (by clear hj; first | rfl | (simp only [q1, q3, Bool.and_true, Bool.true_and, Bool.false_and, Bool.and_false, Bool.or_true, Bool.true_or, Bool.or_false, Bool.false_or, Bool.not_true, Bool.not_false]; done) | (simp [q1, q3]; done) | (simp at q1; done) | (simp at q3; done) | (simp [q1, q3] <;> omega) | (exfalso; simp at q1 q3; omega) | (simp [q3] at q1; done) | (simp [q1] at q3; done)) stsub_nil)
      · refine JL_skip rfl rfl q3 rfl ?_
        refine JL_skip rfl rfl q3 rfl ?_
        refine JL_skip rfl rfl q3 rfl ?_
        refine JL_skip rfl rfl q3 rfl ?_
        refine JL_pd rfl (det_pick_f rfl q3 rfl) ?_
        exact hj (by kernel_rfl) (stsub_consB rfl (by clear hj; first | rfl | (simp only [q1, q3, Bool.and_true, Bool.true_and, Bool.false_and, Bool.and_false, Bool.or_true, Bool.true_or, Bool.or_false, Bool.false_or, Bool.not_true, Bool.not_false]; done) | (simp [q1, q3]; done) | (simp at q1; done) | (simp at q3; done) | (simp [q1, q3] <;> omega) | (exfalso; simp at q1 q3; omega) | (simp [q3] at q1; done) | (simp [q1] at q3; done)) stsub_nil)
  refine JL_pd rfl (det_assign rfl) ?_
  refine JL_nil ?_
  refine JE_seq ?_
  refine JC_ret ?_
  -- stop: out
  refine JE_out (.inl rfl) () (results1 Try.results17 (res_tmp rfl)) (by unfold thinB; congr 1; rw [Bool.eq_iff_iff]; simp only [Bool.and_eq_true, decide_eq_true_eq]; omega) (List.Perm.refl _) (fun _ _ => trivial)
theorem fault_jl (m : Mc) (a : MA) : Cv Try.prog 22 [.agg #[I m.states, .slice a.sa m.steps.length a.sc, .slice a.ra m.running.length a.rc, .slice a.ka m.locks.length a.kc]] (KMc m a) (I (fault m)) := by
  refine Cx_of Try.func22 rfl Try.ntmps22 rfl fun w0 M0 => ?_
  refine JC_seq ?_
  refine JC_region ?_
  refine JL_step rfl rfl rfl (jo_box rfl rfl) fun b1 => ?_
  refine JL_pd rfl (det_assign rfl) ?_
  refine JL_nil ?_
  refine JE_seq ?_
  refine JC_seq ?_
  refine JC_region ?_
  refine JL_dt rfl (det_loadKA rfl Try.isAgg26 Try.sizeOf26 rfl rfl) ?_
  refine JL_step rfl rfl rfl (jo_callv rfl rfl Try.call30 rfl (Fault_j m a)) fun _ => ?_
  refine JL_pd rfl (det_assign rfl) ?_
  refine JL_nil ?_
  refine JE_seq ?_
  refine JC_ret ?_
  -- stop: out
  refine JE_out (.inl rfl) () (results1 Try.results22 (res_tmp rfl)) rfl (List.Perm.refl _) (fun _ _ => trivial)
set_option maxRecDepth 100000 in
theorem lstands_j (xs ys : List Sd) (a a' : Option Addr) (cap cap' : Nat) (hx : xs.length ≤ 1000000) :
    Cv Try.prog 23 [.slice a xs.length cap, .slice a' ys.length cap'] (KAnd (KSl a xs.length cap encSd xs) (KSl a' ys.length cap' encSd ys)) (.bool (decide (xs = ys))) := by
  refine Cx_of Try.func23 rfl Try.ntmps23 rfl fun w0 M0 => ?_
  refine JC_seq ?_
  refine JC_region ?_
  refine JL_pd rfl (det_assign rfl) ?_
  refine JL_nil ?_
  refine JE_seq ?_
  refine JC_seq ?_
  refine JC_seq ?_
  refine JC_region ?_
  refine JL_pd rfl (det_move rfl) ?_
  refine JL_pd rfl (det_len rfl Try.runUnderlying36) ?_
  refine JL_pd rfl (det_move rfl) ?_
  refine JL_pd rfl (det_len rfl Try.runUnderlying41) ?_
  refine JL_pd rfl (det_neq rfl rfl) ?_
  refine JL_nil ?_
  refine JE_seq ?_
  -- stop: cond
  refine JC_ifn rfl (fun h0 => ?_) (fun h0 => ?_)
  · refine JC_seq ?_
    refine JC_region ?_
    refine JL_pd rfl (det_assign rfl) ?_
    refine JL_nil ?_
    refine JE_seq ?_
    refine JC_ret ?_
    refine JE_seq_ret ?_
    -- stop: out
    refine JE_out (.inl rfl) () (results1 Try.results23 (res_tmp rfl)) (by rw [decide_eq_false]; intro e; apply h0; rw [e]) (List.Perm.refl _) (fun _ _ => trivial)
  · refine JC_skip ?_
    refine JE_seq ?_
    refine JC_seq ?_
    refine JC_seq ?_
    refine JC_region ?_
    refine JL_pd rfl (det_assign rfl) ?_
    refine JL_nil ?_
    refine JE_seq ?_
    refine JC_block ?_
    -- stop: loop
    have h0 : xs.length = ys.length := by omega
    refine JC_loopF (γ := Nat) (fun i => i ≤ xs.length ∧ xs.take i = ys.take i) (fun i => [(5, I i)]) (fun _ => []) (fun i => xs.length - i) 0 ⟨by omega, by simp⟩ (stsub_consI rfl rfl stsub_nil) ht_nil ?_
    rintro i ⟨hi, he⟩ K hK
    dsimp only [List.cons_append, List.nil_append]
    refine JC_seq ?_
    refine JC_seq ?_
    refine JC_region ?_
    refine JL_pd rfl (det_move rfl) ?_
    refine JL_pd rfl (det_move rfl) ?_
    refine JL_pd rfl (det_len rfl Try.runUnderlying36) ?_
    refine JL_pd rfl (det_lss rfl rfl) ?_
    refine JL_nil ?_
    refine JE_seq ?_
    -- stop: cond
    refine JC_if rfl (fun h1 => ?_) (fun h1 => ?_)
    · have hi2 : i < xs.length := by omega
      have hi3 : i < ys.length := by omega
      refine JC_skip ?_
      refine JE_seq ?_
      refine JC_seq ?_
      refine JC_block ?_
      refine JC_seq ?_
      refine JC_draw [] (by kernel_rfl) ?_
      refine JA_pd (i := 0) rfl (by kernel_rfl) rfl rfl (det_move rfl) ?_
      refine JA_pd (i := 1) rfl (by kernel_rfl) rfl rfl (det_move rfl) ?_
      refine JA_dt (i := 2) rfl (by kernel_rfl) (by kernel_rfl) rfl rfl (det_indexAddr rfl rfl (by first | rfl | omega) (by first | assumption | omega | decide) Try.runUnderlying36 Try.sizeOf77) ?_
      refine JA_pd (i := 3) rfl (by kernel_rfl) rfl rfl (det_fieldAddrE rfl fo_77_0) ?_
      refine JA_dt (i := 4) rfl (by kernel_rfl) (by kernel_rfl) rfl rfl (det_loadEk rfl (by first | assumption | omega | decide) Try.isAgg3 rfl rfl) ?_
      refine JA_pd (i := 5) rfl (by kernel_rfl) rfl rfl (det_move rfl) ?_
      refine JA_pd (i := 6) rfl (by kernel_rfl) rfl rfl (det_move rfl) ?_
      refine JA_dt (i := 7) rfl (by kernel_rfl) (by kernel_rfl) rfl rfl (det_indexAddr rfl rfl (by first | rfl | omega) (by first | assumption | omega | decide) Try.runUnderlying41 Try.sizeOf53) ?_
      refine JA_pd (i := 8) rfl (by kernel_rfl) rfl rfl (det_fieldAddrE rfl fo_53_0) ?_
      refine JA_dt (i := 9) rfl (by kernel_rfl) (by kernel_rfl) rfl rfl (det_loadEk rfl (by first | assumption | omega | decide) Try.isAgg3 rfl rfl) ?_
      refine JA_pd (i := 10) rfl (by kernel_rfl) rfl rfl (det_neq rfl rfl) ?_
      refine JA_pd (i := 11) rfl (by kernel_rfl) rfl rfl (det_move rfl) ?_
      -- stop: guard 11
      refine JA_split (d0 := 28) rfl (fun k1 => ?_) (fun k1 => ?_)
      · have k1' : ¬ xs[i].st = ys[i].st := by simpa using k1
        refine JA_skip (i := 12) rfl (by kernel_rfl) rfl rfl rfl rfl k1 ?_
        refine JA_skip (i := 13) rfl (by kernel_rfl) rfl rfl rfl rfl k1 ?_
        refine JA_skip (i := 14) rfl (by kernel_rfl) rfl rfl rfl rfl k1 ?_
        refine JA_skip (i := 15) rfl (by kernel_rfl) rfl rfl rfl rfl k1 ?_
        refine JA_skip (i := 16) rfl (by kernel_rfl) rfl rfl rfl rfl k1 ?_
        refine JA_skip (i := 17) rfl (by kernel_rfl) rfl rfl rfl rfl k1 ?_
        refine JA_skip (i := 18) rfl (by kernel_rfl) rfl rfl rfl rfl k1 ?_
        refine JA_skip (i := 19) rfl (by kernel_rfl) rfl rfl rfl rfl k1 ?_
        refine JA_skip (i := 20) rfl (by kernel_rfl) rfl rfl rfl rfl k1 ?_
        refine JA_skip (i := 21) rfl (by kernel_rfl) rfl rfl rfl rfl k1 ?_
        refine JA_skip (i := 22) rfl (by kernel_rfl) rfl rfl rfl rfl k1 ?_
        refine JA_pd (i := 23) rfl (by kernel_rfl) rfl rfl (det_pick_t rfl k1 rfl) ?_
        refine JA_done (by kernel_rfl) ?_
        refine JE_seq ?_
        -- stop: cond
        refine JC_cond rfl (fun h2 => ?_) (fun h2 => ?_)
        · refine JC_seq ?_
          refine JC_region ?_
          refine JL_pd rfl (det_assign rfl) ?_
          refine JL_nil ?_
          refine JE_seq ?_
          refine JC_ret ?_
          refine JE_block_ret ?_
          refine JE_seq_ret ?_
          refine JE_then_ret ?_
          refine JE_block_ret ?_
          refine JE_seq_ret ?_
          -- stop: out
          refine JE_out (.inl rfl) () (results1 Try.results23 (res_tmp rfl)) (by rw [decide_eq_false]; intro e; apply k1'; subst e; rfl) (List.Perm.refl _) (fun _ _ => trivial)
        · cases h2
      · have k1' : xs[i].st = ys[i].st := by simpa using k1
        refine JA_gpd (i := 12) rfl (by kernel_rfl) rfl rfl rfl rfl k1 (det_move rfl) ?_
        refine JA_gpd (i := 13) rfl (by kernel_rfl) rfl rfl rfl rfl k1 (det_move rfl) ?_
        refine JA_gdt (i := 14) rfl (by kernel_rfl) (by kernel_rfl) rfl rfl rfl rfl k1 (det_indexAddr rfl rfl (by first | rfl | omega) (by first | assumption | omega | decide) Try.runUnderlying36 Try.sizeOf77) ?_
        refine JA_gpd (i := 15) rfl (by kernel_rfl) rfl rfl rfl rfl k1 (det_fieldAddrE rfl fo_77_1) ?_
        refine JA_gdt (i := 16) rfl (by kernel_rfl) (by kernel_rfl) rfl rfl rfl rfl k1 (det_loadEk rfl (by first | assumption | omega | decide) Try.isAgg3 rfl rfl) ?_
        refine JA_gpd (i := 17) rfl (by kernel_rfl) rfl rfl rfl rfl k1 (det_move rfl) ?_
        refine JA_gpd (i := 18) rfl (by kernel_rfl) rfl rfl rfl rfl k1 (det_move rfl) ?_
        refine JA_gdt (i := 19) rfl (by kernel_rfl) (by kernel_rfl) rfl rfl rfl rfl k1 (det_indexAddr rfl rfl (by first | rfl | omega) (by first | assumption | omega | decide) Try.runUnderlying41 Try.sizeOf53) ?_
        refine JA_gpd (i := 20) rfl (by kernel_rfl) rfl rfl rfl rfl k1 (det_fieldAddrE rfl fo_53_1) ?_
        refine JA_gdt (i := 21) rfl (by kernel_rfl) (by kernel_rfl) rfl rfl rfl rfl k1 (det_loadEk rfl (by first | assumption | omega | decide) Try.isAgg3 rfl rfl) ?_
        refine JA_gpd (i := 22) rfl (by kernel_rfl) rfl rfl rfl rfl k1 (det_neq rfl rfl) ?_
        refine JA_pd (i := 23) rfl (by kernel_rfl) rfl rfl (det_pick_f rfl k1 rfl) ?_
        refine JA_done (by kernel_rfl) ?_
        refine JE_seq ?_
        -- stop: cond
        refine JC_ifn rfl (fun h2 => ?_) (fun h2 => ?_)
        · refine JC_seq ?_
          refine JC_region ?_
          refine JL_pd rfl (det_assign rfl) ?_
          refine JL_nil ?_
          refine JE_seq ?_
          refine JC_ret ?_
          refine JE_block_ret ?_
          refine JE_seq_ret ?_
          refine JE_then_ret ?_
          refine JE_block_ret ?_
          refine JE_seq_ret ?_
          -- stop: out
          refine JE_out (.inl rfl) () (results1 Try.results23 (res_tmp rfl)) (by rw [decide_eq_false]; intro e; apply h2; subst e; rfl) (List.Perm.refl _) (fun _ _ => trivial)
        · refine JC_skip ?_
          refine JE_block ?_
          refine JE_seq ?_
          refine JC_region ?_
          refine JL_pd rfl (det_move rfl) ?_
          refine JL_pd rfl (det_add rfl rfl ⟨by omega, by omega⟩) ?_
          refine JL_pd rfl (det_assign rfl) ?_
          refine JL_nil ?_
          -- stop: end
          refine JE_roundF hK (i + 1) ⟨by omega, ?_⟩ (by omega) (stsub_consI rfl (by omega) stsub_nil) ht_nil
          rw [take_snoc hi2, take_snoc hi3, he, show xs[i] = ys[i] from Sd.ext'.2 ⟨k1', h2⟩]
    · refine JC_exit ?_
      refine JE_seq_exit ?_
      refine JE_then_exit ?_
      refine JE_block_here ?_
      refine JE_seq ?_
      refine JC_seq ?_
      refine JC_region ?_
      refine JL_pd rfl (det_assign rfl) ?_
      refine JL_nil ?_
      refine JE_seq ?_
      refine JC_ret ?_
      -- stop: out
      refine JE_out (.inl rfl) () (results1 Try.results23 (res_tmp rfl)) (by rw [decide_eq_true]; rwa [List.take_of_length_le (by omega), List.take_of_length_le (by omega)] at he) (List.Perm.refl _) (fun _ _ => trivial)
set_option maxRecDepth 100000 in
theorem ints_j (xs ys : List Int) (a a' : Option Addr) (cap cap' : Nat) (hx : xs.length ≤ 1000000) :
    Cv Try.prog 29 [.slice a xs.length cap, .slice a' ys.length cap'] (KAnd (KSl a xs.length cap encI xs) (KSl a' ys.length cap' encI ys)) (.bool (decide (xs = ys))) := by
  refine Cx_of Try.func29 rfl Try.ntmps29 rfl fun w0 M0 => ?_
  refine JC_seq ?_
  refine JC_region ?_
  refine JL_pd rfl (det_assign rfl) ?_
  refine JL_nil ?_
  refine JE_seq ?_
  refine JC_seq ?_
  refine JC_seq ?_
  refine JC_region ?_
  refine JL_pd rfl (det_move rfl) ?_
  refine JL_pd rfl (det_len rfl Try.runUnderlying23) ?_
  refine JL_pd rfl (det_move rfl) ?_
  refine JL_pd rfl (det_len rfl Try.runUnderlying23) ?_
  refine JL_pd rfl (det_neq rfl rfl) ?_
  refine JL_nil ?_
  refine JE_seq ?_
  -- stop: cond
  refine JC_ifn rfl (fun h0 => ?_) (fun h0 => ?_)
  · refine JC_seq ?_
    refine JC_region ?_
    refine JL_pd rfl (det_assign rfl) ?_
    refine JL_nil ?_
    refine JE_seq ?_
    refine JC_ret ?_
    refine JE_seq_ret ?_
    -- stop: out
    refine JE_out (.inl rfl) () (results1 Try.results29 (res_tmp rfl)) (by rw [decide_eq_false]; intro e; apply h0; rw [e]) (List.Perm.refl _) (fun _ _ => trivial)
  · refine JC_skip ?_
    refine JE_seq ?_
    refine JC_seq ?_
    refine JC_seq ?_
    refine JC_region ?_
    refine JL_pd rfl (det_assign rfl) ?_
    refine JL_nil ?_
    refine JE_seq ?_
    refine JC_block ?_
    -- stop: loop
    have h0 : xs.length = ys.length := by omega
    refine JC_loopF (γ := Nat) (fun i => i ≤ xs.length ∧ xs.take i = ys.take i) (fun i => [(5, I i)]) (fun _ => []) (fun i => xs.length - i) 0 ⟨by omega, by simp⟩ (stsub_consI rfl rfl stsub_nil) ht_nil ?_
    rintro i ⟨hi, he⟩ K hK
    dsimp only [List.cons_append, List.nil_append]
    refine JC_seq ?_
    refine JC_seq ?_
    refine JC_region ?_
    refine JL_pd rfl (det_move rfl) ?_
    refine JL_pd rfl (det_move rfl) ?_
    refine JL_pd rfl (det_len rfl Try.runUnderlying23) ?_
    refine JL_pd rfl (det_lss rfl rfl) ?_
    refine JL_nil ?_
    refine JE_seq ?_
    -- stop: cond
    refine JC_if rfl (fun h1 => ?_) (fun h1 => ?_)
    · have hi2 : i < xs.length := by omega
      have hi3 : i < ys.length := by omega
      refine JC_skip ?_
      refine JE_seq ?_
      refine JC_seq ?_
      refine JC_block ?_
      refine JC_seq ?_
      refine JC_draw [] (by kernel_rfl) ?_
      refine JA_pd (i := 0) rfl (by kernel_rfl) rfl rfl (det_move rfl) ?_
      refine JA_pd (i := 1) rfl (by kernel_rfl) rfl rfl (det_move rfl) ?_
      refine JA_dt (i := 2) rfl (by kernel_rfl) (by kernel_rfl) rfl rfl (det_indexAddr rfl rfl (by first | rfl | omega) (by first | assumption | omega | decide) Try.runUnderlying23 Try.sizeOf3) ?_
      refine JA_dt (i := 3) rfl (by kernel_rfl) (by kernel_rfl) rfl rfl (det_loadE rfl (by first | assumption | omega | decide) Try.isAgg3 rfl rfl) ?_
      refine JA_pd (i := 4) rfl (by kernel_rfl) rfl rfl (det_move rfl) ?_
      refine JA_pd (i := 5) rfl (by kernel_rfl) rfl rfl (det_move rfl) ?_
      refine JA_dt (i := 6) rfl (by kernel_rfl) (by kernel_rfl) rfl rfl (det_indexAddr rfl rfl (by first | rfl | omega) (by first | assumption | omega | decide) Try.runUnderlying23 Try.sizeOf3) ?_
      refine JA_dt (i := 7) rfl (by kernel_rfl) (by kernel_rfl) rfl rfl (det_loadE rfl (by first | assumption | omega | decide) Try.isAgg3 rfl rfl) ?_
      refine JA_pd (i := 8) rfl (by kernel_rfl) rfl rfl (det_neq rfl rfl) ?_
      refine JA_done (by kernel_rfl) ?_
      refine JE_seq ?_
      -- stop: cond
      refine JC_ifn rfl (fun h2 => ?_) (fun h2 => ?_)
      · refine JC_seq ?_
        refine JC_region ?_
        refine JL_pd rfl (det_assign rfl) ?_
        refine JL_nil ?_
        refine JE_seq ?_
        refine JC_ret ?_
        refine JE_block_ret ?_
        refine JE_seq_ret ?_
        refine JE_then_ret ?_
        refine JE_block_ret ?_
        refine JE_seq_ret ?_
        -- stop: out
        refine JE_out (.inl rfl) () (results1 Try.results29 (res_tmp rfl)) (by rw [decide_eq_false]; intro e; apply h2; subst e; rfl) (List.Perm.refl _) (fun _ _ => trivial)
      · refine JC_skip ?_
        refine JE_block ?_
        refine JE_seq ?_
        refine JC_region ?_
        refine JL_pd rfl (det_move rfl) ?_
        refine JL_pd rfl (det_add rfl rfl ⟨by omega, by omega⟩) ?_
        refine JL_pd rfl (det_assign rfl) ?_
        refine JL_nil ?_
        -- stop: end
        refine JE_roundF hK (i + 1) ⟨by omega, ?_⟩ (by omega) (stsub_consI rfl (by omega) stsub_nil) ht_nil
        rw [take_snoc hi2, take_snoc hi3, he, h2]
    · refine JC_exit ?_
      refine JE_seq_exit ?_
      refine JE_then_exit ?_
      refine JE_block_here ?_
      refine JE_seq ?_
      refine JC_seq ?_
      refine JC_region ?_
      refine JL_pd rfl (det_assign rfl) ?_
      refine JL_nil ?_
      refine JE_seq ?_
      refine JC_ret ?_
      -- stop: out
      refine JE_out (.inl rfl) () (results1 Try.results29 (res_tmp rfl)) (by rw [decide_eq_true]; rwa [List.take_of_length_le (by omega), List.take_of_length_le (by omega)] at he) (List.Perm.refl _) (fun _ _ => trivial)
/-- The machine of the document's examples. -/
def setM : Mc := ⟨3, [⟨0, 1, 0⟩, ⟨1, 2, 1⟩, ⟨2, 0, 2⟩], [1, 2], [⟨0, 2⟩, ⟨6, 1⟩]⟩
theorem setter_j : Cr Try.prog 49 [] KTrue (fun b : MA => .agg #[I setM.states, .slice b.sa setM.steps.length b.sc, .slice b.ra setM.running.length b.rc, .slice b.ka setM.locks.length b.kc]) (fun b => KMc setM b) := by
  refine Cx_of Try.func49 rfl Try.ntmps49 rfl fun w0 M0 => ?_
  refine JC_seq ?_
  refine JC_region ?_
  refine JL_step rfl rfl rfl (jo_alloc0 Try.zeroValue34 rfl) fun b0 => ?_
  refine JL_nil ?_
  refine JE_seq ?_
  refine JC_seq ?_
  refine JC_region ?_
  refine JL_pd rfl (det_build rfl (bld_94_0_1_2 _ _ _)) ?_
  refine JL_pd rfl (det_build rfl (bld_94_0_1_2 _ _ _)) ?_
  refine JL_pd rfl (det_build rfl (bld_94_0_1_2 _ _ _)) ?_
  refine JL_step rfl rfl rfl (jo_buildSlice rfl (bsl_31_3_0_1_2 _ _ _ _ _ _ _ _ _)) fun b4 => ?_
  refine JL_step rfl rfl rfl (jo_buildSlice rfl (bsl_23_2_0_1 _ _)) fun b5 => ?_
  refine JL_pd rfl (det_build rfl (bld_62_0_1 _ _)) ?_
  refine JL_pd rfl (det_build rfl (bld_62_0_1 _ _)) ?_
  refine JL_step rfl rfl rfl (jo_buildSlice rfl (bsl_32_2_0_1 _ _ _ _)) fun b8 => ?_
  refine JL_pd rfl (det_build rfl (bld_34_0_1_2_3 _ _ _ _ _ _ _ _ _ _)) ?_
  refine JL_step0 rfl rfl (jo_store rfl rfl rfl (by first | (simp only [splice_norm]; done) | (simp only [splice_norm]; rfl) | rfl) Try.sizeOf34 rfl rfl) fun _ => ?_
  refine JL_nil ?_
  refine JE_seq ?_
  refine JC_ret ?_
  -- stop: out
  refine JE_lit (enc := encSp) b4 3 setM.steps noFp rfl rfl (by decide) ?_
  refine JE_lit (enc := encI) b5 2 setM.running noFp rfl rfl (by decide) ?_
  refine JE_lit (enc := encLk) b8 2 setM.locks noFp rfl rfl (by decide) ?_
  refine JE_out (.inl rfl) (⟨some ⟨b4, 0, none⟩, some ⟨b5, 0, none⟩, some ⟨b8, 0, none⟩, 3, 2, 2⟩ : MA) (results1 Try.results49 (res_box rfl Try.isAgg34 Try.sizeOf34 rfl)) rfl (List.Perm.refl _) (fun w h => ⟨h.2.2.1, h.2.1, h.1⟩)
end Go.Proofs.Ytgbfjcgjcnndpaa

/- The statements about cycle: the document's first examples. -/
namespace Go.Proofs.Ytgbfjcgjcnndpaa
open Go.RowKit Go.Shelf

theorem set_f : fault setM = 0 := by decide +kernel
abbrev setL : List Sd := [⟨0, 0⟩, ⟨0, 1⟩, ⟨0, 2⟩, ⟨1, 0⟩, ⟨1, 1⟩, ⟨2, 0⟩, ⟨2, 1⟩, ⟨2, 2⟩]
theorem set_r : reachL setM setM.locks = setL := by decide +kernel
theorem set_w : wayO setM setM.locks (dangerB setM) = some [0, 1, 6, 6] := by decide +kernel
theorem set_k : locksR setM = [⟨0, 2⟩, ⟨6, 1⟩, ⟨6, 2⟩] := by decide +kernel
theorem set_e : locksE setM = 0 := by decide +kernel
theorem set_n : standsW (endsW setM [0, 2] 1) = [⟨0, 0⟩] := by decide +kernel
theorem wStands_j (a : MA) : Cr Try.prog 21 [.agg #[I setM.states, .slice a.sa setM.steps.length a.sc, .slice a.ra setM.running.length a.rc, .slice a.ka setM.locks.length a.kc]] (KMc setM a) (fun q : Option Addr × Nat => .tuple #[.slice q.1 setL.length q.2, I 0]) (fun q => KSl q.1 setL.length q.2 encSd setL) := by
  have h := Stands_jo setM a set_f
  rw [set_r] at h
  exact h
theorem wDanger_j (a : MA) : Cr Try.prog 26 [.agg #[I setM.states, .slice a.sa setM.steps.length a.sc, .slice a.ra setM.running.length a.rc, .slice a.ka setM.locks.length a.kc]] (KMc setM a) (fun q : Option Addr × Nat => .tuple #[.slice q.1 ([0, 1, 6, 6] : List Int).length q.2, I 0]) (fun q => KSl q.1 ([0, 1, 6, 6] : List Int).length q.2 encI [0, 1, 6, 6]) := Danger_js setM a set_f _ set_w
abbrev setKs : List Lk := [⟨0, 2⟩, ⟨6, 1⟩, ⟨6, 2⟩]
theorem wLocks_j (a : MA) : Cr Try.prog 32 [.agg #[I setM.states, .slice a.sa setM.steps.length a.sc, .slice a.ra setM.running.length a.rc, .slice a.ka setM.locks.length a.kc]] (KMc setM a) (fun q : Option Addr × Nat => .tuple #[.slice q.1 setKs.length q.2, I 0]) (fun q => KSl q.1 setKs.length q.2 encLk setKs) := by
  have h := Locks_jo setM a set_f
  rw [set_k, set_e] at h
  exact h
abbrev setE : List Sd := [⟨0, 0⟩]
theorem wEnds_j (a : MA) (b : Nat) : Cr Try.prog 34 [.agg #[I setM.states, .slice a.sa setM.steps.length a.sc, .slice a.ra setM.running.length a.rc, .slice a.ka setM.locks.length a.kc], .slice (some ⟨b, 0, none⟩) 2 2, I 1] (KAnd (KMc setM a) (KSl (some ⟨b, 0, none⟩) 2 2 encI [0, 2])) (fun q : Option Addr × Nat => .tuple #[.slice q.1 setE.length q.2, I 0]) (fun q => KSl q.1 setE.length q.2 encSd setE) := by
  have h := Ends_jo setM a 1 (some ⟨b, 0, none⟩) 2 [0, 2] set_f (by decide) (by decide) (by decide)
  rw [set_n] at h
  exact h
set_option maxRecDepth 100000 in
theorem wakes_j : Cv Try.prog 18 [] KTrue (.bool true) := by
  refine Cx_of Try.func18 rfl Try.ntmps18 rfl fun w0 M0 => ?_
  refine JC_seq ?_
  refine JC_region ?_
  refine JL_pd rfl (det_assign rfl) ?_
  refine JL_nil ?_
  refine JE_seq ?_
  refine JC_seq ?_
  refine JC_region ?_
  refine JL_step rfl rfl rfl (jo_call rfl rfl Try.call49 rfl (setter_j)) fun x10 => ?_
  -- stop: op  1 t11 := (call (Call (value f21) (t10) (34)))   <0 0>   18
  refine JL_step rfl rfl rfl (jo_call rfl rfl Try.call21 rfl (wStands_j x10)) fun ⟨r1, c1⟩ => ?_
  refine JL_pd rfl (det_move rfl) ?_
  refine JL_pd rfl (det_extract rfl rfl) ?_
  refine JL_pd rfl (det_extract rfl rfl) ?_
  refine JL_pd rfl (det_assign rfl) ?_
  refine JL_pd rfl (det_assign rfl) ?_
  refine JL_nil ?_
  refine JE_seq ?_
  refine JC_seq ?_
  refine JC_region ?_
  refine JL_step rfl rfl rfl (jo_call rfl rfl Try.call49 rfl (setter_j)) fun x15 => ?_
  -- stop: op  1 t16 := (call (Call (value f26) (t15) (34)))   <0 0>   19
  refine JL_step rfl rfl rfl (jo_call rfl rfl Try.call26 rfl (wDanger_j x15)) fun ⟨r2, c2⟩ => ?_
  refine JL_pd rfl (det_move rfl) ?_
  refine JL_pd rfl (det_extract rfl rfl) ?_
  refine JL_pd rfl (det_extract rfl rfl) ?_
  refine JL_pd rfl (det_assign rfl) ?_
  refine JL_pd rfl (det_assign rfl) ?_
  refine JL_nil ?_
  refine JE_seq ?_
  refine JC_seq ?_
  refine JC_region ?_
  refine JL_step rfl rfl rfl (jo_call rfl rfl Try.call49 rfl (setter_j)) fun x20 => ?_
  -- stop: op  1 t21 := (call (Call (value f32) (t20) (34)))   <0 0>   20
  refine JL_step rfl rfl rfl (jo_call rfl rfl Try.call32 rfl (wLocks_j x20)) fun ⟨r3, c3⟩ => ?_
  refine JL_pd rfl (det_move rfl) ?_
  refine JL_pd rfl (det_extract rfl rfl) ?_
  refine JL_pd rfl (det_extract rfl rfl) ?_
  refine JL_pd rfl (det_assign rfl) ?_
  refine JL_pd rfl (det_assign rfl) ?_
  refine JL_nil ?_
  refine JE_seq ?_
  refine JC_seq ?_
  refine JC_region ?_
  refine JL_step rfl rfl rfl (jo_call rfl rfl Try.call49 rfl (setter_j)) fun x25 => ?_
  refine JL_step rfl rfl rfl (jo_buildSlice rfl (bsl_23_2_0_1 _ _)) fun b26 => ?_
  -- stop: op  2 t27 := (call (Call (value f34) (t25 t26 1) (34 23 3)))   <0 1 0>   21
  refine JL_lit (enc := encI) b26 2 [0, 2] noFp rfl rfl (by decide) ?_
  refine JL_step rfl rfl rfl (jo_call rfl rfl Try.call34 rfl (wEnds_j x25 b26)) fun ⟨r4, c4⟩ => ?_
  refine JL_pd rfl (det_move rfl) ?_
  refine JL_pd rfl (det_extract rfl rfl) ?_
  refine JL_pd rfl (det_extract rfl rfl) ?_
  refine JL_pd rfl (det_assign rfl) ?_
  refine JL_pd rfl (det_assign rfl) ?_
  refine JL_nil ?_
  refine JE_seq ?_
  refine JC_seq ?_
  refine JC_region ?_
  refine JL_pd rfl (det_move rfl) ?_
  refine JL_pd rfl (det_eql rfl rfl) ?_
  refine JL_pd rfl (det_move rfl) ?_
  -- stop: guard 2
  refine JL_is (d0 := 32) true rfl (by decide) (fun h1 => ?_)
  refine JL_guard rfl rfl h1 ?_
  refine JL_pd rfl (det_move rfl) ?_
  refine JL_guard rfl rfl h1 ?_
  refine JL_pd rfl (det_len rfl Try.runUnderlying36) ?_
  refine JL_guard rfl rfl h1 ?_
  refine JL_pd rfl (det_eql rfl rfl) ?_
  refine JL_pd rfl (det_pick_t rfl h1 rfl) ?_
  refine JL_pd rfl (det_move rfl) ?_
  refine JL_is (d0 := 37) true rfl (by decide) (fun h2 => ?_)
  refine JL_guard rfl rfl h2 ?_
  refine JL_pd rfl (det_move rfl) ?_
  refine JL_guard rfl rfl h2 ?_
  refine JL_dt rfl (det_indexAddr (i := 4) rfl rfl (by first | rfl | omega) (by first | assumption | omega | decide) Try.runUnderlying36 Try.sizeOf77) ?_
  refine JL_guard rfl rfl h2 ?_
  refine JL_dt rfl (det_loadEA rfl (by first | assumption | omega | decide) Try.isAgg77 Try.sizeOf77 rfl rfl rfl) ?_
  refine JL_guard rfl rfl h2 ?_
  refine JL_pd rfl (det_build rfl (bld_77_0_1 _ _)) ?_
  refine JL_guard rfl rfl h2 ?_
  refine JL_pd rfl (det_eqlA rfl rfl egt_77 (eqa_77 _ _ _ _)) ?_
  refine JL_pd rfl (det_pick_t rfl h2 rfl) ?_
  refine JL_pd rfl (det_move rfl) ?_
  refine JL_is (d0 := 44) true rfl (by decide) (fun h3 => ?_)
  refine JL_guard rfl rfl h3 ?_
  refine JL_pd rfl (det_move rfl) ?_
  refine JL_guard rfl rfl h3 ?_
  refine JL_dt rfl (det_indexAddr (i := 5) rfl rfl (by first | rfl | omega) (by first | assumption | omega | decide) Try.runUnderlying36 Try.sizeOf77) ?_
  refine JL_guard rfl rfl h3 ?_
  refine JL_dt rfl (det_loadEA rfl (by first | assumption | omega | decide) Try.isAgg77 Try.sizeOf77 rfl rfl rfl) ?_
  refine JL_guard rfl rfl h3 ?_
  refine JL_pd rfl (det_build rfl (bld_77_0_1 _ _)) ?_
  refine JL_guard rfl rfl h3 ?_
  refine JL_pd rfl (det_eqlA rfl rfl egt_77 (eqa_77 _ _ _ _)) ?_
  refine JL_pd rfl (det_pick_t rfl h3 rfl) ?_
  refine JL_pd rfl (det_move rfl) ?_
  refine JL_is (d0 := 51) true rfl (by decide) (fun h4 => ?_)
  refine JL_guard rfl rfl h4 ?_
  refine JL_pd rfl (det_move rfl) ?_
  refine JL_guard rfl rfl h4 ?_
  refine JL_pd rfl (det_eql rfl rfl) ?_
  refine JL_pd rfl (det_pick_t rfl h4 rfl) ?_
  refine JL_pd rfl (det_move rfl) ?_
  refine JL_is (d0 := 55) true rfl (by decide) (fun h5 => ?_)
  refine JL_guard rfl rfl h5 ?_
  refine JL_pd rfl (det_move rfl) ?_
  refine JL_guard rfl rfl h5 ?_
  refine JL_step rfl rfl rfl (jo_buildSlice rfl (bsl_23_4_0_1_2_3 _ _ _ _)) fun b57 => ?_
  refine JL_guard rfl rfl h5 ?_
  refine JL_lit (enc := encI) b57 4 [0, 1, 6, 6] noFp rfl rfl (by decide) ?_
  refine JL_step rfl rfl rfl (jo_callv rfl rfl Try.call29 rfl (ints_j [0, 1, 6, 6] [0, 1, 6, 6] _ _ _ _ (by decide))) fun _ => ?_
  refine JL_pd rfl (det_pick_t rfl h5 rfl) ?_
  refine JL_pd rfl (det_move rfl) ?_
  refine JL_is (d0 := 60) true rfl (by decide) (fun h6 => ?_)
  refine JL_guard rfl rfl h6 ?_
  refine JL_pd rfl (det_move rfl) ?_
  refine JL_guard rfl rfl h6 ?_
  refine JL_pd rfl (det_eql rfl rfl) ?_
  refine JL_pd rfl (det_pick_t rfl h6 rfl) ?_
  refine JL_pd rfl (det_move rfl) ?_
  refine JL_is (d0 := 64) true rfl (by decide) (fun h7 => ?_)
  refine JL_guard rfl rfl h7 ?_
  refine JL_pd rfl (det_move rfl) ?_
  refine JL_guard rfl rfl h7 ?_
  refine JL_pd rfl (det_len rfl Try.runUnderlying32) ?_
  refine JL_guard rfl rfl h7 ?_
  refine JL_pd rfl (det_eql rfl rfl) ?_
  refine JL_pd rfl (det_pick_t rfl h7 rfl) ?_
  refine JL_pd rfl (det_move rfl) ?_
  refine JL_is (d0 := 69) true rfl (by decide) (fun h8 => ?_)
  refine JL_guard rfl rfl h8 ?_
  refine JL_pd rfl (det_move rfl) ?_
  refine JL_guard rfl rfl h8 ?_
  refine JL_dt rfl (det_indexAddr (i := 2) rfl rfl (by first | rfl | omega) (by first | assumption | omega | decide) Try.runUnderlying32 Try.sizeOf62) ?_
  refine JL_guard rfl rfl h8 ?_
  refine JL_dt rfl (det_loadEA rfl (by first | assumption | omega | decide) Try.isAgg62 Try.sizeOf62 rfl rfl rfl) ?_
  refine JL_guard rfl rfl h8 ?_
  refine JL_pd rfl (det_build rfl (bld_62_0_1 _ _)) ?_
  refine JL_guard rfl rfl h8 ?_
  refine JL_pd rfl (det_eqlA rfl rfl egt_62 (eqa_62 _ _ _ _)) ?_
  refine JL_pd rfl (det_pick_t rfl h8 rfl) ?_
  refine JL_pd rfl (det_move rfl) ?_
  refine JL_is (d0 := 76) true rfl (by decide) (fun h9 => ?_)
  refine JL_guard rfl rfl h9 ?_
  refine JL_pd rfl (det_move rfl) ?_
  refine JL_guard rfl rfl h9 ?_
  refine JL_pd rfl (det_eql rfl rfl) ?_
  refine JL_pd rfl (det_pick_t rfl h9 rfl) ?_
  refine JL_pd rfl (det_move rfl) ?_
  refine JL_is (d0 := 80) true rfl (by decide) (fun h10 => ?_)
  refine JL_guard rfl rfl h10 ?_
  refine JL_pd rfl (det_move rfl) ?_
  refine JL_guard rfl rfl h10 ?_
  refine JL_pd rfl (det_len rfl Try.runUnderlying36) ?_
  refine JL_guard rfl rfl h10 ?_
  refine JL_pd rfl (det_eql rfl rfl) ?_
  refine JL_pd rfl (det_pick_t rfl h10 rfl) ?_
  refine JL_pd rfl (det_move rfl) ?_
  refine JL_is (d0 := 85) true rfl (by decide) (fun h11 => ?_)
  refine JL_guard rfl rfl h11 ?_
  refine JL_pd rfl (det_move rfl) ?_
  refine JL_guard rfl rfl h11 ?_
  refine JL_dt rfl (det_indexAddr (i := 0) rfl rfl (by first | rfl | omega) (by first | assumption | omega | decide) Try.runUnderlying36 Try.sizeOf77) ?_
  refine JL_guard rfl rfl h11 ?_
  refine JL_dt rfl (det_loadEA rfl (by first | assumption | omega | decide) Try.isAgg77 Try.sizeOf77 rfl rfl rfl) ?_
  refine JL_guard rfl rfl h11 ?_
  refine JL_pd rfl (det_build rfl (bld_77)) ?_
  refine JL_guard rfl rfl h11 ?_
  refine JL_pd rfl (det_eqlA rfl rfl egt_77 (eqa_77 _ _ _ _)) ?_
  refine JL_pd rfl (det_pick_t rfl h11 rfl) ?_
  refine JL_pd rfl (det_assign rfl) ?_
  refine JL_nil ?_
  refine JE_seq ?_
  refine JC_ret ?_
  refine JE_out (.inl rfl) () (results1 Try.results18 (res_tmp rfl)) ?_ (List.Perm.refl _) (fun _ _ => trivial)
  rfl
end Go.Proofs.Ytgbfjcgjcnndpaa

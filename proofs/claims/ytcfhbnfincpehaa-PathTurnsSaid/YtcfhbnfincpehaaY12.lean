/- The walks of PathReaches and PathTurns. -/
import Derived.Test.YtcfhbnfincpehaaB8
set_option linter.unusedSimpArgs false
set_option linter.unusedVariables false
namespace Go.Proofs.Ytcfhbnfincpehaa
open Go.RowKit Go.Shelf

set_option maxRecDepth 100000 in
theorem PathReaches_j (l : La) (s : St) (row : Int) (ha pa : Option Addr) (hc pc : Nat) : Cv Try.prog 3 [.agg #[I l.boards, I l.rows, .slice ha l.hooks.length hc, .slice pa l.patches.length pc], .agg #[I s.b, I s.d], I row] (KLane l ha hc pa pc) (.bool true) := by
  refine Cx_of Try.func3 rfl Try.ntmps3 rfl fun w0 M0 => ?_
  refine JC_seq ?_
  refine JC_region ?_
  refine JL_step rfl rfl rfl (jo_box rfl rfl) fun b3 => ?_
  refine JL_step rfl rfl rfl (jo_box rfl rfl) fun b4 => ?_
  refine JL_pd rfl (det_assign rfl) ?_
  refine JL_nil ?_
  refine JE_seq ?_
  refine JC_seq ?_
  refine JC_seq ?_
  refine JC_region ?_
  refine JL_dt rfl (det_loadKA rfl Try.isAgg25 Try.sizeOf25 rfl rfl) ?_
  refine JL_step rfl rfl rfl (jo_callv rfl rfl Try.call16 rfl (lFew_j l ha pa hc pc)) fun _ => ?_
  refine JL_pd rfl (det_not rfl) ?_
  refine JL_nil ?_
  refine JE_seq ?_
  -- stop: cond
  refine JC_cond rfl (fun h1 => ?_) (fun h1 => ?_)
  · refine JC_seq ?_
    refine JC_region ?_
    refine JL_step rfl rfl rfl (jo_callv rfl rfl Try.call17 rfl (lawake_j)) fun _ => ?_
    refine JL_pd rfl (det_assign rfl) ?_
    refine JL_nil ?_
    refine JE_seq ?_
    refine JC_ret ?_
    refine JE_seq_ret ?_
    -- stop: out
    refine JE_out (.inl rfl) () (results1 Try.results3 (res_tmp rfl)) rfl (List.Perm.refl _) (fun _ _ => trivial)
  · obtain ⟨hthin, hB⟩ := few_valid (by simpa using h1)
    have hth : l.patches.length ≤ 12 ∧ l.hooks.length ≤ 6 := by simpa [thin] using hthin
    refine JC_skip ?_
    refine JE_seq ?_
    refine JC_seq ?_
    refine JC_draw [] (by kernel_rfl) ?_
    refine JA_dt (i := 0) rfl (by kernel_rfl) (by kernel_rfl) rfl rfl (det_loadKA rfl Try.isAgg25 Try.sizeOf25 rfl rfl) ?_
    refine JA_dt (i := 2) rfl (by kernel_rfl) (by kernel_rfl) rfl rfl (det_loadKA rfl Try.isAgg27 Try.sizeOf27 rfl rfl) ?_
    refine JA_pd (i := 4) rfl (by kernel_rfl) rfl rfl (det_move rfl) ?_
    refine JA_one (i := 1) (by kernel_rfl) rfl rfl (jo_call rfl rfl Try.call19 rfl (lLane_j l ha pa hc pc (by omega) (by omega))) (fun _ => ⟨hsub_drop 0 rfl, fun _ h => h.2⟩) fun x19 => ?_
    refine JA_one (i := 3) (by kernel_rfl) rfl rfl (jo_callv rfl rfl Try.call20 rfl (lStart_j s)) (fun _ => ⟨hsub_refl, fun _ h => h⟩) fun _ => ?_
    -- stop: op  5 t23 := (call (Call (value f18) (t19 t21 t22) (37 39 3)))   <1 3 4 3>   126
    by_cases he : startErr l s = 0
    · obtain ⟨V, h0⟩ := valid_start he
      have hB := hB (valid_fault V)
      have r1 := V.r1
      have r2 := V.r2
      have hnr : ((nR l : Nat) : Int) = l.rows - 1 := by unfold nR; omega
      by_cases hrow : 0 ≤ row ∧ row ≤ l.rows - 1
      · obtain ⟨k, rfl⟩ : ∃ k : Nat, row = k := ⟨row.toNat, by omega⟩
        have hlr := rowL_len l s k V
        refine JA_one (i := 5) (by kernel_rfl) rfl rfl (jo_call rfl rfl Try.call18 rfl (Reach_jo l s k x19.1.1 x19.2.1 x19.1.2 x19.2.2 he (by omega))) (fun _ => ⟨hsub_drop 0 rfl, fun _ h => h.2⟩) fun ⟨qa, qc⟩ => ?_
        refine JA_pd (i := 6) rfl (by kernel_rfl) rfl rfl (det_move rfl) ?_
        refine JA_pd (i := 7) rfl (by kernel_rfl) rfl rfl (det_extract rfl rfl) ?_
        refine JA_pd (i := 8) rfl (by kernel_rfl) rfl rfl (det_extract rfl rfl) ?_
        refine JA_pd (i := 9) rfl (by kernel_rfl) rfl rfl (det_extract rfl rfl) ?_
        refine JA_pd (i := 10) rfl (by kernel_rfl) rfl rfl (det_assign rfl) ?_
        refine JA_pd (i := 11) rfl (by kernel_rfl) rfl rfl (det_assign rfl) ?_
        refine JA_pd (i := 12) rfl (by kernel_rfl) rfl rfl (det_assign rfl) ?_
        refine JA_done (by kernel_rfl) ?_
        refine JE_seq ?_
        refine JC_seq ?_
        refine JC_region ?_
        refine JL_dt rfl (det_loadKA rfl Try.isAgg25 Try.sizeOf25 rfl rfl) ?_
        refine JL_dt rfl (det_loadKA rfl Try.isAgg27 Try.sizeOf27 rfl rfl) ?_
        refine JL_step rfl rfl rfl (jo_callv rfl rfl Try.call21 rfl (lstarted_j l s ha pa hc pc)) fun _ => ?_
        refine JL_pd rfl (det_assign rfl) ?_
        refine JL_nil ?_
        refine JE_seq ?_
        refine JC_seq ?_
        refine JC_seq ?_
        refine JC_region ?_
        refine JL_pd rfl (det_move rfl) ?_
        refine JL_pd rfl (det_eql rfl rfl) ?_
        refine JL_pd rfl (det_move rfl) ?_
        -- stop: guard 2
        refine JL_join1 7 39 (.bool false) (fun hj => ?_) ?_
        · refine JL_split (d0 := 32) rfl (fun q1 => ?_) (fun q1 => ?_)
          · refine JL_guard rfl rfl q1 ?_
            refine JL_pd rfl (det_move rfl) ?_
            refine JL_guard rfl rfl q1 ?_
            refine JL_pd rfl (det_fieldAddr rfl fo_25_1) ?_
            refine JL_guard rfl rfl q1 ?_
            refine JL_dt rfl (det_loadK rfl Try.isAgg3 rfl) ?_
            refine JL_guard rfl rfl q1 ?_
            refine JL_pd rfl (det_sub rfl rfl ⟨by omega, by omega⟩) ?_
            refine JL_guard rfl rfl q1 ?_
            refine JL_step rfl rfl rfl (jo_callv rfl rfl Try.call22 rfl (rIn_j _ _ _)) fun _ => ?_
            refine JL_guard rfl rfl q1 ?_
            refine JL_pd rfl (det_not rfl) ?_
            refine JL_pd rfl (det_pick_t rfl q1 rfl) ?_
            exact hj (by kernel_rfl) (stsub_consB rfl (by clear hj; first | rfl | (simp only [he, hrow, q1, Bool.and_true, Bool.true_and, Bool.false_and, Bool.and_false, Bool.or_true, Bool.true_or, Bool.or_false, Bool.false_or, Bool.not_true, Bool.not_false]; done) | (simp [he, hrow, q1]; done) | (simp [he, hrow] at q1; done) | (simp [he, hrow, q1] <;> omega) | (exfalso; simp [he, hrow] at q1; omega) | (simp [q1] at he; done) | (simp [q1] at hrow; done)) stsub_nil)
          · refine JL_skip rfl rfl q1 rfl ?_
            refine JL_skip rfl rfl q1 rfl ?_
            refine JL_skip rfl rfl q1 rfl ?_
            refine JL_skip rfl rfl q1 rfl ?_
            refine JL_skip rfl rfl q1 rfl ?_
            refine JL_skip rfl rfl q1 rfl ?_
            refine JL_pd rfl (det_pick_f rfl q1 rfl) ?_
            exact hj (by kernel_rfl) (stsub_consB rfl (by clear hj; first | rfl | (simp only [he, hrow, q1, Bool.and_true, Bool.true_and, Bool.false_and, Bool.and_false, Bool.or_true, Bool.true_or, Bool.or_false, Bool.false_or, Bool.not_true, Bool.not_false]; done) | (simp [he, hrow, q1]; done) | (simp [he, hrow] at q1; done) | (simp [he, hrow, q1] <;> omega) | (exfalso; simp [he, hrow] at q1; omega) | (simp [q1] at he; done) | (simp [q1] at hrow; done)) stsub_nil)
        refine JL_nil ?_
        refine JE_seq ?_
        refine JC_condF rfl rfl ?_
        refine JC_skip ?_
        refine JE_seq ?_
        refine JC_seq ?_
        refine JC_seq ?_
        refine JC_region ?_
        refine JL_pd rfl (det_move rfl) ?_
        refine JL_pd rfl (det_neq rfl rfl) ?_
        refine JL_nil ?_
        refine JE_seq ?_
        -- stop: cond
        refine JC_ifn rfl (fun h2 => ?_) (fun h2 => ?_)
        · exact absurd he h2
        · refine JC_skip ?_
          refine JE_seq ?_
          refine JC_seq ?_
          refine JC_region ?_
          refine JL_dt rfl (det_loadKA rfl Try.isAgg25 Try.sizeOf25 rfl rfl) ?_
          refine JL_dt rfl (det_loadKA rfl Try.isAgg27 Try.sizeOf27 rfl rfl) ?_
          refine JL_pd rfl (det_move rfl) ?_
          -- stop: op  3 t61 := (call (Call (value f23) (t58 t59 t60) (25 27 3)))   <0 1 2>   134
          refine JL_step rfl rfl rfl (jo_call rfl rfl Try.call23 rfl (rReach_j l s k ha pa hc pc V h0 hB (by omega))) fun ⟨ya, yc⟩ => ?_
          refine JL_pd rfl (det_move rfl) ?_
          refine JL_pd rfl (det_extract rfl rfl) ?_
          refine JL_pd rfl (det_extract rfl rfl) ?_
          refine JL_pd rfl (det_assign rfl) ?_
          refine JL_pd rfl (det_assign rfl) ?_
          refine JL_nil ?_
          refine JE_seq ?_
          refine JC_seq ?_
          refine JC_region ?_
          refine JL_pd rfl (det_move rfl) ?_
          refine JL_pd rfl (det_eql rfl rfl) ?_
          refine JL_pd rfl (det_move rfl) ?_
          -- stop: guard 2
          refine JL_join1 13 6 (.bool true) (fun hj => ?_) ?_
          · refine JL_split (d0 := 66) rfl (fun q2 => ?_) (fun q2 => ?_)
            · refine JL_guard rfl rfl q2 ?_
              refine JL_pd rfl (det_move rfl) ?_
              refine JL_guard rfl rfl q2 ?_
              refine JL_pd rfl (det_move rfl) ?_
              refine JL_guard rfl rfl q2 ?_
              refine JL_step rfl rfl rfl (jo_callv rfl rfl Try.call24 rfl (lstates_j (rowL l s k) (rowL l s k) qa ya qc yc (by omega))) fun _ => ?_
              refine JL_pd rfl (det_pick_t rfl q2 rfl) ?_
              refine JL_pd rfl (det_move rfl) ?_
              refine JL_split (d0 := 71) rfl (fun q3 => ?_) (fun q3 => ?_)
              · refine JL_guard rfl rfl q3 ?_
                refine JL_pd rfl (det_move rfl) ?_
                refine JL_guard rfl rfl q3 ?_
                refine JL_pd rfl (det_move rfl) ?_
                refine JL_guard rfl rfl q3 ?_
                refine JL_pd rfl (det_eql rfl rfl) ?_
                refine JL_pd rfl (det_pick_t rfl q3 rfl) ?_
                refine JL_pd rfl (det_move rfl) ?_
                refine JL_split (d0 := 76) rfl (fun q4 => ?_) (fun q4 => ?_)
                · refine JL_guard rfl rfl q4 ?_
                  refine JL_step rfl rfl rfl (jo_callv rfl rfl Try.call17 rfl (lawake_j)) fun _ => ?_
                  refine JL_pd rfl (det_pick_t rfl q4 rfl) ?_
                  refine JL_pd rfl (det_assign rfl) ?_
                  exact hj (by kernel_rfl) (stsub_consB rfl (by clear hj; first | rfl | (simp only [q2, q3, q4, Bool.and_true, Bool.true_and, Bool.false_and, Bool.and_false, Bool.or_true, Bool.true_or, Bool.or_false, Bool.false_or, Bool.not_true, Bool.not_false]; done) | (simp [q2, q3, q4]; done) | (simp at q2; done) | (simp at q3; done) | (simp at q4; done) | (simp [q2, q3, q4] <;> omega) | (exfalso; simp at q2 q3 q4; omega)) stsub_nil)
                · refine JL_skip rfl rfl q4 rfl ?_
                  refine JL_pd rfl (det_pick_f rfl q4 rfl) ?_
                  refine JL_pd rfl (det_assign rfl) ?_
                  exact hj (by kernel_rfl) (stsub_consB rfl (by clear hj; first | rfl | (simp only [q2, q3, q4, Bool.and_true, Bool.true_and, Bool.false_and, Bool.and_false, Bool.or_true, Bool.true_or, Bool.or_false, Bool.false_or, Bool.not_true, Bool.not_false]; done) | (simp [q2, q3, q4]; done) | (simp at q2; done) | (simp at q3; done) | (simp at q4; done) | (simp [q2, q3, q4] <;> omega) | (exfalso; simp at q2 q3 q4; omega)) stsub_nil)
              · refine JL_skip rfl rfl q3 rfl ?_
                refine JL_skip rfl rfl q3 rfl ?_
                refine JL_skip rfl rfl q3 rfl ?_
                refine JL_pd rfl (det_pick_f rfl q3 rfl) ?_
                refine JL_pd rfl (det_move rfl) ?_
                refine JL_skip rfl rfl rfl rfl ?_
                refine JL_pd rfl (det_pick_f rfl rfl rfl) ?_
                refine JL_pd rfl (det_assign rfl) ?_
                exact hj (by kernel_rfl) (stsub_consB rfl (by clear hj; first | rfl | (simp only [q2, q3, Bool.and_true, Bool.true_and, Bool.false_and, Bool.and_false, Bool.or_true, Bool.true_or, Bool.or_false, Bool.false_or, Bool.not_true, Bool.not_false]; done) | (simp [q2, q3]; done) | (simp at q2; done) | (simp at q3; done) | (simp [q2, q3] <;> omega) | (exfalso; simp at q2 q3; omega)) stsub_nil)
            · refine JL_skip rfl rfl q2 rfl ?_
              refine JL_skip rfl rfl q2 rfl ?_
              refine JL_skip rfl rfl q2 rfl ?_
              refine JL_pd rfl (det_pick_f rfl q2 rfl) ?_
              refine JL_pd rfl (det_move rfl) ?_
              refine JL_skip rfl rfl rfl rfl ?_
              refine JL_skip rfl rfl rfl rfl ?_
              refine JL_skip rfl rfl rfl rfl ?_
              refine JL_pd rfl (det_pick_f rfl rfl rfl) ?_
              refine JL_pd rfl (det_move rfl) ?_
              refine JL_skip rfl rfl rfl rfl ?_
              refine JL_pd rfl (det_pick_f rfl rfl rfl) ?_
              refine JL_pd rfl (det_assign rfl) ?_
              exact hj (by kernel_rfl) (stsub_consB rfl (by clear hj; first | rfl | (simp only [q2, Bool.and_true, Bool.true_and, Bool.false_and, Bool.and_false, Bool.or_true, Bool.true_or, Bool.or_false, Bool.false_or, Bool.not_true, Bool.not_false]; done) | (simp [q2]; done) | (simp at q2; done) | (simp [q2] <;> omega) | (exfalso; simp at q2; omega)) stsub_nil)
          refine JL_nil ?_
          refine JE_seq ?_
          refine JC_ret ?_
          -- stop: out
          refine JE_out (.inl rfl) () (results1 Try.results3 (res_tmp rfl)) rfl (List.Perm.refl _) (fun _ _ => trivial)
      · have hrowf := decide_eq_false hrow
        refine JA_one (i := 5) (by kernel_rfl) rfl rfl (jo_callv rfl rfl Try.call18 rfl (Reach_jr l s row x19.1.1 x19.2.1 x19.1.2 x19.2.2 he hrow)) (fun _ => ⟨hsub_refl, fun _ h => h⟩) fun _ => ?_
        refine JA_pd (i := 6) rfl (by kernel_rfl) rfl rfl (det_move rfl) ?_
        refine JA_pd (i := 7) rfl (by kernel_rfl) rfl rfl (det_extract rfl rfl) ?_
        refine JA_pd (i := 8) rfl (by kernel_rfl) rfl rfl (det_extract rfl rfl) ?_
        refine JA_pd (i := 9) rfl (by kernel_rfl) rfl rfl (det_extract rfl rfl) ?_
        refine JA_pd (i := 10) rfl (by kernel_rfl) rfl rfl (det_assign rfl) ?_
        refine JA_pd (i := 11) rfl (by kernel_rfl) rfl rfl (det_assign rfl) ?_
        refine JA_pd (i := 12) rfl (by kernel_rfl) rfl rfl (det_assign rfl) ?_
        refine JA_done (by kernel_rfl) ?_
        refine JE_seq ?_
        refine JC_seq ?_
        refine JC_region ?_
        refine JL_dt rfl (det_loadKA rfl Try.isAgg25 Try.sizeOf25 rfl rfl) ?_
        refine JL_dt rfl (det_loadKA rfl Try.isAgg27 Try.sizeOf27 rfl rfl) ?_
        refine JL_step rfl rfl rfl (jo_callv rfl rfl Try.call21 rfl (lstarted_j l s ha pa hc pc)) fun _ => ?_
        refine JL_pd rfl (det_assign rfl) ?_
        refine JL_nil ?_
        refine JE_seq ?_
        refine JC_seq ?_
        refine JC_seq ?_
        refine JC_region ?_
        refine JL_pd rfl (det_move rfl) ?_
        refine JL_pd rfl (det_eql rfl rfl) ?_
        refine JL_pd rfl (det_move rfl) ?_
        -- stop: guard 2
        refine JL_join1 7 39 (.bool true) (fun hj => ?_) ?_
        · refine JL_split (d0 := 32) rfl (fun q5 => ?_) (fun q5 => ?_)
          · refine JL_guard rfl rfl q5 ?_
            refine JL_pd rfl (det_move rfl) ?_
            refine JL_guard rfl rfl q5 ?_
            refine JL_pd rfl (det_fieldAddr rfl fo_25_1) ?_
            refine JL_guard rfl rfl q5 ?_
            refine JL_dt rfl (det_loadK rfl Try.isAgg3 rfl) ?_
            refine JL_guard rfl rfl q5 ?_
            refine JL_pd rfl (det_sub rfl rfl ⟨by omega, by omega⟩) ?_
            refine JL_guard rfl rfl q5 ?_
            refine JL_step rfl rfl rfl (jo_callv rfl rfl Try.call22 rfl (rIn_j _ _ _)) fun _ => ?_
            refine JL_guard rfl rfl q5 ?_
            refine JL_pd rfl (det_not rfl) ?_
            refine JL_pd rfl (det_pick_t rfl q5 rfl) ?_
            exact hj (by kernel_rfl) (stsub_consB rfl (by clear hj; first | rfl | (simp only [he, hrowf, q5, Bool.and_true, Bool.true_and, Bool.false_and, Bool.and_false, Bool.or_true, Bool.true_or, Bool.or_false, Bool.false_or, Bool.not_true, Bool.not_false]; done) | (simp [he, hrowf, q5]; done) | (simp [he, hrowf] at q5; done) | (simp [he, hrowf, q5] <;> omega) | (exfalso; simp [he, hrowf] at q5; omega) | (simp [q5] at he; done) | (simp [q5] at hrowf; done)) stsub_nil)
          · refine JL_skip rfl rfl q5 rfl ?_
            refine JL_skip rfl rfl q5 rfl ?_
            refine JL_skip rfl rfl q5 rfl ?_
            refine JL_skip rfl rfl q5 rfl ?_
            refine JL_skip rfl rfl q5 rfl ?_
            refine JL_skip rfl rfl q5 rfl ?_
            refine JL_pd rfl (det_pick_f rfl q5 rfl) ?_
            exact hj (by kernel_rfl) (stsub_consB rfl (by clear hj; first | rfl | (simp only [he, hrowf, q5, Bool.and_true, Bool.true_and, Bool.false_and, Bool.and_false, Bool.or_true, Bool.true_or, Bool.or_false, Bool.false_or, Bool.not_true, Bool.not_false]; done) | (simp [he, hrowf, q5]; done) | (simp [he, hrowf] at q5; done) | (simp [he, hrowf, q5] <;> omega) | (exfalso; simp [he, hrowf] at q5; omega) | (simp [q5] at he; done) | (simp [q5] at hrowf; done)) stsub_nil)
        refine JL_nil ?_
        refine JE_seq ?_
        refine JC_condT rfl rfl ?_
        refine JC_region ?_
        refine JL_pd rfl (det_assign rfl) ?_
        refine JL_nil ?_
        refine JE_seq ?_
        refine JC_seq ?_
        refine JC_seq ?_
        refine JC_region ?_
        refine JL_pd rfl (det_move rfl) ?_
        refine JL_pd rfl (det_neq rfl rfl) ?_
        refine JL_nil ?_
        refine JE_seq ?_
        -- stop: cond
        refine JC_ifn rfl (fun h2 => ?_) (fun h2 => ?_)
        · refine JC_seq ?_
          refine JC_region ?_
          refine JL_pd rfl (det_move rfl) ?_
          refine JL_pd rfl (det_move rfl) ?_
          refine JL_pd rfl (det_eql rfl rfl) ?_
          refine JL_pd rfl (det_move rfl) ?_
          -- stop: guard 3
          refine JL_join1 12 6 (.bool true) (fun hj => ?_) ?_
          · refine JL_split (d0 := 45) rfl (fun q6 => ?_) (fun q6 => ?_)
            · refine JL_guard rfl rfl q6 ?_
              refine JL_pd rfl (det_move rfl) ?_
              refine JL_guard rfl rfl q6 ?_
              refine JL_pd rfl (det_len rfl Try.runUnderlying30) ?_
              refine JL_guard rfl rfl q6 ?_
              refine JL_pd rfl (det_eql rfl rfl) ?_
              refine JL_pd rfl (det_pick_t rfl q6 rfl) ?_
              refine JL_pd rfl (det_move rfl) ?_
              refine JL_split (d0 := 50) rfl (fun q7 => ?_) (fun q7 => ?_)
              · refine JL_guard rfl rfl q7 ?_
                refine JL_pd rfl (det_move rfl) ?_
                refine JL_guard rfl rfl q7 ?_
                refine JL_pd rfl (det_eql rfl rfl) ?_
                refine JL_pd rfl (det_pick_t rfl q7 rfl) ?_
                refine JL_pd rfl (det_move rfl) ?_
                refine JL_split (d0 := 54) rfl (fun q8 => ?_) (fun q8 => ?_)
                · refine JL_guard rfl rfl q8 ?_
                  refine JL_step rfl rfl rfl (jo_callv rfl rfl Try.call17 rfl (lawake_j)) fun _ => ?_
                  refine JL_pd rfl (det_pick_t rfl q8 rfl) ?_
                  refine JL_pd rfl (det_assign rfl) ?_
                  exact hj (by kernel_rfl) (stsub_consB rfl (by clear hj; first | rfl | (simp only [q6, q7, q8, Bool.and_true, Bool.true_and, Bool.false_and, Bool.and_false, Bool.or_true, Bool.true_or, Bool.or_false, Bool.false_or, Bool.not_true, Bool.not_false]; done) | (simp [q6, q7, q8]; done) | (simp at q6; done) | (simp at q7; done) | (simp at q8; done) | (simp [q6, q7, q8] <;> omega) | (exfalso; simp at q6 q7 q8; omega)) stsub_nil)
                · refine JL_skip rfl rfl q8 rfl ?_
                  refine JL_pd rfl (det_pick_f rfl q8 rfl) ?_
                  refine JL_pd rfl (det_assign rfl) ?_
                  exact hj (by kernel_rfl) (stsub_consB rfl (by clear hj; first | rfl | (simp only [q6, q7, q8, Bool.and_true, Bool.true_and, Bool.false_and, Bool.and_false, Bool.or_true, Bool.true_or, Bool.or_false, Bool.false_or, Bool.not_true, Bool.not_false]; done) | (simp [q6, q7, q8]; done) | (simp at q6; done) | (simp at q7; done) | (simp at q8; done) | (simp [q6, q7, q8] <;> omega) | (exfalso; simp at q6 q7 q8; omega)) stsub_nil)
              · refine JL_skip rfl rfl q7 rfl ?_
                refine JL_skip rfl rfl q7 rfl ?_
                refine JL_pd rfl (det_pick_f rfl q7 rfl) ?_
                refine JL_pd rfl (det_move rfl) ?_
                refine JL_skip rfl rfl rfl rfl ?_
                refine JL_pd rfl (det_pick_f rfl rfl rfl) ?_
                refine JL_pd rfl (det_assign rfl) ?_
                exact hj (by kernel_rfl) (stsub_consB rfl (by clear hj; first | rfl | (simp only [q6, q7, Bool.and_true, Bool.true_and, Bool.false_and, Bool.and_false, Bool.or_true, Bool.true_or, Bool.or_false, Bool.false_or, Bool.not_true, Bool.not_false]; done) | (simp [q6, q7]; done) | (simp at q6; done) | (simp at q7; done) | (simp [q6, q7] <;> omega) | (exfalso; simp at q6 q7; omega)) stsub_nil)
            · refine JL_skip rfl rfl q6 rfl ?_
              refine JL_skip rfl rfl q6 rfl ?_
              refine JL_skip rfl rfl q6 rfl ?_
              refine JL_pd rfl (det_pick_f rfl q6 rfl) ?_
              refine JL_pd rfl (det_move rfl) ?_
              refine JL_skip rfl rfl rfl rfl ?_
              refine JL_skip rfl rfl rfl rfl ?_
              refine JL_pd rfl (det_pick_f rfl rfl rfl) ?_
              refine JL_pd rfl (det_move rfl) ?_
              refine JL_skip rfl rfl rfl rfl ?_
              refine JL_pd rfl (det_pick_f rfl rfl rfl) ?_
              refine JL_pd rfl (det_assign rfl) ?_
              exact hj (by kernel_rfl) (stsub_consB rfl (by clear hj; first | rfl | (simp only [q6, Bool.and_true, Bool.true_and, Bool.false_and, Bool.and_false, Bool.or_true, Bool.true_or, Bool.or_false, Bool.false_or, Bool.not_true, Bool.not_false]; done) | (simp [q6]; done) | (simp at q6; done) | (simp [q6] <;> omega) | (exfalso; simp at q6; omega)) stsub_nil)
          refine JL_nil ?_
          refine JE_seq ?_
          refine JC_ret ?_
          refine JE_seq_ret ?_
          -- stop: out
          refine JE_out (.inl rfl) () (results1 Try.results3 (res_tmp rfl)) rfl (List.Perm.refl _) (fun _ _ => trivial)
        · cases h2
    · skip
      refine JA_one (i := 5) (by kernel_rfl) rfl rfl (jo_callv rfl rfl Try.call18 rfl (Reach_je l s row x19.1.1 x19.2.1 x19.1.2 x19.2.2 he)) (fun _ => ⟨hsub_refl, fun _ h => h⟩) fun _ => ?_
      refine JA_pd (i := 6) rfl (by kernel_rfl) rfl rfl (det_move rfl) ?_
      refine JA_pd (i := 7) rfl (by kernel_rfl) rfl rfl (det_extract rfl rfl) ?_
      refine JA_pd (i := 8) rfl (by kernel_rfl) rfl rfl (det_extract rfl rfl) ?_
      refine JA_pd (i := 9) rfl (by kernel_rfl) rfl rfl (det_extract rfl rfl) ?_
      refine JA_pd (i := 10) rfl (by kernel_rfl) rfl rfl (det_assign rfl) ?_
      refine JA_pd (i := 11) rfl (by kernel_rfl) rfl rfl (det_assign rfl) ?_
      refine JA_pd (i := 12) rfl (by kernel_rfl) rfl rfl (det_assign rfl) ?_
      refine JA_done (by kernel_rfl) ?_
      refine JE_seq ?_
      refine JC_seq ?_
      refine JC_region ?_
      refine JL_dt rfl (det_loadKA rfl Try.isAgg25 Try.sizeOf25 rfl rfl) ?_
      refine JL_dt rfl (det_loadKA rfl Try.isAgg27 Try.sizeOf27 rfl rfl) ?_
      refine JL_step rfl rfl rfl (jo_callv rfl rfl Try.call21 rfl (lstarted_j l s ha pa hc pc)) fun _ => ?_
      refine JL_pd rfl (det_assign rfl) ?_
      refine JL_nil ?_
      refine JE_seq ?_
      refine JC_seq ?_
      refine JC_seq ?_
      refine JC_region ?_
      refine JL_pd rfl (det_move rfl) ?_
      refine JL_pd rfl (det_eql rfl rfl) ?_
      refine JL_pd rfl (det_move rfl) ?_
      -- stop: guard 2
      refine JL_is (d0 := 32) false rfl (by exact decide_eq_false he) (fun g1 => ?_)
      refine JL_skip rfl rfl g1 rfl ?_
      refine JL_skip rfl rfl g1 rfl ?_
      refine JL_skip rfl rfl g1 rfl ?_
      refine JL_skip rfl rfl g1 rfl ?_
      refine JL_skip rfl rfl g1 rfl ?_
      refine JL_skip rfl rfl g1 rfl ?_
      refine JL_pd rfl (det_pick_f rfl g1 rfl) ?_
      refine JL_nil ?_
      refine JE_seq ?_
      refine JC_condF rfl rfl ?_
      refine JC_skip ?_
      refine JE_seq ?_
      refine JC_seq ?_
      refine JC_seq ?_
      refine JC_region ?_
      refine JL_pd rfl (det_move rfl) ?_
      refine JL_pd rfl (det_neq rfl rfl) ?_
      refine JL_nil ?_
      refine JE_seq ?_
      -- stop: cond
      refine JC_ifn rfl (fun h2 => ?_) (fun h2 => ?_)
      · refine JC_seq ?_
        refine JC_region ?_
        refine JL_pd rfl (det_move rfl) ?_
        refine JL_pd rfl (det_move rfl) ?_
        refine JL_pd rfl (det_eql rfl rfl) ?_
        refine JL_pd rfl (det_move rfl) ?_
        -- stop: guard 3
        refine JL_join1 12 6 (.bool true) (fun hj => ?_) ?_
        · refine JL_split (d0 := 45) rfl (fun q9 => ?_) (fun q9 => ?_)
          · refine JL_guard rfl rfl q9 ?_
            refine JL_pd rfl (det_move rfl) ?_
            refine JL_guard rfl rfl q9 ?_
            refine JL_pd rfl (det_len rfl Try.runUnderlying30) ?_
            refine JL_guard rfl rfl q9 ?_
            refine JL_pd rfl (det_eql rfl rfl) ?_
            refine JL_pd rfl (det_pick_t rfl q9 rfl) ?_
            refine JL_pd rfl (det_move rfl) ?_
            refine JL_split (d0 := 50) rfl (fun q10 => ?_) (fun q10 => ?_)
            · refine JL_guard rfl rfl q10 ?_
              refine JL_pd rfl (det_move rfl) ?_
              refine JL_guard rfl rfl q10 ?_
              refine JL_pd rfl (det_eql rfl rfl) ?_
              refine JL_pd rfl (det_pick_t rfl q10 rfl) ?_
              refine JL_pd rfl (det_move rfl) ?_
              refine JL_split (d0 := 54) rfl (fun q11 => ?_) (fun q11 => ?_)
              · refine JL_guard rfl rfl q11 ?_
                refine JL_step rfl rfl rfl (jo_callv rfl rfl Try.call17 rfl (lawake_j)) fun _ => ?_
                refine JL_pd rfl (det_pick_t rfl q11 rfl) ?_
                refine JL_pd rfl (det_assign rfl) ?_
                exact hj (by kernel_rfl) (stsub_consB rfl (by clear hj; first | rfl | (simp only [q9, q10, q11, Bool.and_true, Bool.true_and, Bool.false_and, Bool.and_false, Bool.or_true, Bool.true_or, Bool.or_false, Bool.false_or, Bool.not_true, Bool.not_false]; done) | (simp [q9, q10, q11]; done) | (simp at q9; done) | (simp at q10; done) | (simp at q11; done) | (simp [q9, q10, q11] <;> omega) | (exfalso; simp at q9 q10 q11; omega)) stsub_nil)
              · refine JL_skip rfl rfl q11 rfl ?_
                refine JL_pd rfl (det_pick_f rfl q11 rfl) ?_
                refine JL_pd rfl (det_assign rfl) ?_
                exact hj (by kernel_rfl) (stsub_consB rfl (by clear hj; first | rfl | (simp only [q9, q10, q11, Bool.and_true, Bool.true_and, Bool.false_and, Bool.and_false, Bool.or_true, Bool.true_or, Bool.or_false, Bool.false_or, Bool.not_true, Bool.not_false]; done) | (simp [q9, q10, q11]; done) | (simp at q9; done) | (simp at q10; done) | (simp at q11; done) | (simp [q9, q10, q11] <;> omega) | (exfalso; simp at q9 q10 q11; omega)) stsub_nil)
            · refine JL_skip rfl rfl q10 rfl ?_
              refine JL_skip rfl rfl q10 rfl ?_
              refine JL_pd rfl (det_pick_f rfl q10 rfl) ?_
              refine JL_pd rfl (det_move rfl) ?_
              refine JL_skip rfl rfl rfl rfl ?_
              refine JL_pd rfl (det_pick_f rfl rfl rfl) ?_
              refine JL_pd rfl (det_assign rfl) ?_
              exact hj (by kernel_rfl) (stsub_consB rfl (by clear hj; first | rfl | (simp only [q9, q10, Bool.and_true, Bool.true_and, Bool.false_and, Bool.and_false, Bool.or_true, Bool.true_or, Bool.or_false, Bool.false_or, Bool.not_true, Bool.not_false]; done) | (simp [q9, q10]; done) | (simp at q9; done) | (simp at q10; done) | (simp [q9, q10] <;> omega) | (exfalso; simp at q9 q10; omega)) stsub_nil)
          · refine JL_skip rfl rfl q9 rfl ?_
            refine JL_skip rfl rfl q9 rfl ?_
            refine JL_skip rfl rfl q9 rfl ?_
            refine JL_pd rfl (det_pick_f rfl q9 rfl) ?_
            refine JL_pd rfl (det_move rfl) ?_
            refine JL_skip rfl rfl rfl rfl ?_
            refine JL_skip rfl rfl rfl rfl ?_
            refine JL_pd rfl (det_pick_f rfl rfl rfl) ?_
            refine JL_pd rfl (det_move rfl) ?_
            refine JL_skip rfl rfl rfl rfl ?_
            refine JL_pd rfl (det_pick_f rfl rfl rfl) ?_
            refine JL_pd rfl (det_assign rfl) ?_
            exact hj (by kernel_rfl) (stsub_consB rfl (by clear hj; first | rfl | (simp only [q9, Bool.and_true, Bool.true_and, Bool.false_and, Bool.and_false, Bool.or_true, Bool.true_or, Bool.or_false, Bool.false_or, Bool.not_true, Bool.not_false]; done) | (simp [q9]; done) | (simp at q9; done) | (simp [q9] <;> omega) | (exfalso; simp at q9; omega)) stsub_nil)
        refine JL_nil ?_
        refine JE_seq ?_
        refine JC_ret ?_
        refine JE_seq_ret ?_
        -- stop: out
        refine JE_out (.inl rfl) () (results1 Try.results3 (res_tmp rfl)) rfl (List.Perm.refl _) (fun _ _ => trivial)
      · exact absurd h2 he
set_option maxRecDepth 100000 in
theorem PathTurns_j (l : La) (s : St) (ha pa : Option Addr) (hc pc : Nat) : Cv Try.prog 4 [.agg #[I l.boards, I l.rows, .slice ha l.hooks.length hc, .slice pa l.patches.length pc], .agg #[I s.b, I s.d]] (KLane l ha hc pa pc) (.bool true) := by
  refine Cx_of Try.func4 rfl Try.ntmps4 rfl fun w0 M0 => ?_
  refine JC_seq ?_
  refine JC_region ?_
  refine JL_step rfl rfl rfl (jo_box rfl rfl) fun b2 => ?_
  refine JL_step rfl rfl rfl (jo_box rfl rfl) fun b3 => ?_
  refine JL_pd rfl (det_assign rfl) ?_
  refine JL_nil ?_
  refine JE_seq ?_
  refine JC_seq ?_
  refine JC_seq ?_
  refine JC_region ?_
  refine JL_dt rfl (det_loadKA rfl Try.isAgg25 Try.sizeOf25 rfl rfl) ?_
  refine JL_step rfl rfl rfl (jo_callv rfl rfl Try.call16 rfl (lFew_j l ha pa hc pc)) fun _ => ?_
  refine JL_pd rfl (det_not rfl) ?_
  refine JL_nil ?_
  refine JE_seq ?_
  -- stop: cond
  refine JC_cond rfl (fun h1 => ?_) (fun h1 => ?_)
  · refine JC_seq ?_
    refine JC_region ?_
    refine JL_step rfl rfl rfl (jo_callv rfl rfl Try.call17 rfl (lawake_j)) fun _ => ?_
    refine JL_pd rfl (det_assign rfl) ?_
    refine JL_nil ?_
    refine JE_seq ?_
    refine JC_ret ?_
    refine JE_seq_ret ?_
    -- stop: out
    refine JE_out (.inl rfl) () (results1 Try.results4 (res_tmp rfl)) rfl (List.Perm.refl _) (fun _ _ => trivial)
  · obtain ⟨hthin, hB⟩ := few_valid (by simpa using h1)
    have hth : l.patches.length ≤ 12 ∧ l.hooks.length ≤ 6 := by simpa [thin] using hthin
    by_cases he : startErr l s = 0
    · obtain ⟨V, h0⟩ := valid_start he
      have hB := hB (valid_fault V)
      refine JC_skip ?_
      refine JE_seq ?_
      refine JC_seq ?_
      -- stop: draw
      refine JC_cutN (γ := Nat) (fun _ => True) (fun b5 => [(5, pt b5), (6, I 0)]) (fun b5 => [bx b5 [I (turnV l s).lo, I (turnV l s).hi]]) (fun K hK => ?_) (fun b5 _ => ?_)
      · refine JC_draw [9] (by kernel_rfl) ?_
        refine JA_dt (i := 0) rfl (by kernel_rfl) (by kernel_rfl) rfl rfl (det_loadKA rfl Try.isAgg25 Try.sizeOf25 rfl rfl) ?_
        refine JA_dt (i := 2) rfl (by kernel_rfl) (by kernel_rfl) rfl rfl (det_loadKA rfl Try.isAgg27 Try.sizeOf27 rfl rfl) ?_
        refine JA_ready (rs := [1, 8]) (by kernel_rfl) rfl ?_
        refine JAl_cons (i := 1) rfl rfl (jo_call rfl rfl Try.call19 rfl (lLane_j l ha pa hc pc (by omega) (by omega))) (fun _ => ⟨hsub_drop 0 rfl, fun _ h => h.2⟩) (fun x14 => ?_) ?_
        · refine JA_ready (rs := [3, 8]) (by kernel_rfl) rfl ?_
          refine JAl_cons (i := 3) rfl rfl (jo_callv rfl rfl Try.call20 rfl (lStart_j s)) (fun _ => ⟨hsub_refl, fun _ h => h⟩) (fun _ => ?_) ?_
          · refine JA_ready (rs := [4, 8]) (by kernel_rfl) rfl ?_
            refine JAl_cons (i := 4) rfl rfl (jo_callv rfl rfl Try.call25 rfl (Turn_jo l s x14.1.1 x14.2.1 x14.1.2 x14.2.2 he)) (fun _ => ⟨hsub_refl, fun _ h => h⟩) (fun _ => ?_) ?_
            · refine JA_pd (i := 5) rfl (by kernel_rfl) rfl rfl (det_move rfl) ?_
              refine JA_pd (i := 6) rfl (by kernel_rfl) rfl rfl (det_extract rfl rfl) ?_
              refine JA_pd (i := 7) rfl (by kernel_rfl) rfl rfl (det_extract rfl rfl) ?_
              refine JA_one (i := 8) (by kernel_rfl) rfl rfl (jo_alloc0 Try.zeroValue49 rfl) (fun _ => ⟨hsub_drop 1 rfl, fun _ h => h⟩) fun b5 => ?_
              refine JA_tail (i := 9) (by kernel_rfl) rfl rfl rfl rfl (jo_store rfl rfl rfl (by first | (simp only [splice_norm]; done) | (simp only [splice_norm]; rfl) | rfl) Try.sizeOf49 rfl rfl) fun _ => ?_
              refine JT_pd (i := 10) rfl (by kernel_rfl) rfl rfl (det_assign rfl) ?_
              refine JT_done (by kernel_rfl) ?_
              exact JE_cutF hK b5 trivial (stsub_cons rfl (stsub_cons rfl stsub_nil)) (ht_cons ht_nil)
            refine JAl_cons (i := 8) rfl rfl (jo_alloc0 Try.zeroValue49 rfl) (fun _ => ⟨hsub_drop 1 rfl, fun _ h => h⟩) (fun b5 => ?_) ?_
            · refine JA_one (i := 4) (by kernel_rfl) rfl rfl (jo_callv rfl rfl Try.call25 rfl (Turn_jo l s x14.1.1 x14.2.1 x14.1.2 x14.2.2 he)) (fun _ => ⟨hsub_refl, fun _ h => h⟩) fun _ => ?_
              refine JA_pd (i := 5) rfl (by kernel_rfl) rfl rfl (det_move rfl) ?_
              refine JA_pd (i := 6) rfl (by kernel_rfl) rfl rfl (det_extract rfl rfl) ?_
              refine JA_pd (i := 7) rfl (by kernel_rfl) rfl rfl (det_extract rfl rfl) ?_
              refine JA_tail (i := 9) (by kernel_rfl) rfl rfl rfl rfl (jo_store rfl rfl rfl (by first | (simp only [splice_norm]; done) | (simp only [splice_norm]; rfl) | rfl) Try.sizeOf49 rfl rfl) fun _ => ?_
              refine JT_pd (i := 10) rfl (by kernel_rfl) rfl rfl (det_assign rfl) ?_
              refine JT_done (by kernel_rfl) ?_
              exact JE_cutF hK b5 trivial (stsub_cons rfl (stsub_cons rfl stsub_nil)) (ht_cons ht_nil)
            exact JAl_nil
          refine JAl_cons (i := 8) rfl rfl (jo_alloc0 Try.zeroValue49 rfl) (fun _ => ⟨hsub_drop 1 rfl, fun _ h => h⟩) (fun b5 => ?_) ?_
          · refine JA_one (i := 3) (by kernel_rfl) rfl rfl (jo_callv rfl rfl Try.call20 rfl (lStart_j s)) (fun _ => ⟨hsub_refl, fun _ h => h⟩) fun _ => ?_
            refine JA_one (i := 4) (by kernel_rfl) rfl rfl (jo_callv rfl rfl Try.call25 rfl (Turn_jo l s x14.1.1 x14.2.1 x14.1.2 x14.2.2 he)) (fun _ => ⟨hsub_refl, fun _ h => h⟩) fun _ => ?_
            refine JA_pd (i := 5) rfl (by kernel_rfl) rfl rfl (det_move rfl) ?_
            refine JA_pd (i := 6) rfl (by kernel_rfl) rfl rfl (det_extract rfl rfl) ?_
            refine JA_pd (i := 7) rfl (by kernel_rfl) rfl rfl (det_extract rfl rfl) ?_
            refine JA_tail (i := 9) (by kernel_rfl) rfl rfl rfl rfl (jo_store rfl rfl rfl (by first | (simp only [splice_norm]; done) | (simp only [splice_norm]; rfl) | rfl) Try.sizeOf49 rfl rfl) fun _ => ?_
            refine JT_pd (i := 10) rfl (by kernel_rfl) rfl rfl (det_assign rfl) ?_
            refine JT_done (by kernel_rfl) ?_
            exact JE_cutF hK b5 trivial (stsub_cons rfl (stsub_cons rfl stsub_nil)) (ht_cons ht_nil)
          exact JAl_nil
        refine JAl_cons (i := 8) rfl rfl (jo_alloc0 Try.zeroValue49 rfl) (fun _ => ⟨hsub_drop 1 rfl, fun _ h => h⟩) (fun b5 => ?_) ?_
        · refine JA_one (i := 1) (by kernel_rfl) rfl rfl (jo_call rfl rfl Try.call19 rfl (lLane_j l ha pa hc pc (by omega) (by omega))) (fun _ => ⟨hsub_drop 0 rfl, fun _ h => h.2⟩) fun x14 => ?_
          refine JA_one (i := 3) (by kernel_rfl) rfl rfl (jo_callv rfl rfl Try.call20 rfl (lStart_j s)) (fun _ => ⟨hsub_refl, fun _ h => h⟩) fun _ => ?_
          refine JA_one (i := 4) (by kernel_rfl) rfl rfl (jo_callv rfl rfl Try.call25 rfl (Turn_jo l s x14.1.1 x14.2.1 x14.1.2 x14.2.2 he)) (fun _ => ⟨hsub_refl, fun _ h => h⟩) fun _ => ?_
          refine JA_pd (i := 5) rfl (by kernel_rfl) rfl rfl (det_move rfl) ?_
          refine JA_pd (i := 6) rfl (by kernel_rfl) rfl rfl (det_extract rfl rfl) ?_
          refine JA_pd (i := 7) rfl (by kernel_rfl) rfl rfl (det_extract rfl rfl) ?_
          refine JA_tail (i := 9) (by kernel_rfl) rfl rfl rfl rfl (jo_store rfl rfl rfl (by first | (simp only [splice_norm]; done) | (simp only [splice_norm]; rfl) | rfl) Try.sizeOf49 rfl rfl) fun _ => ?_
          refine JT_pd (i := 10) rfl (by kernel_rfl) rfl rfl (det_assign rfl) ?_
          refine JT_done (by kernel_rfl) ?_
          exact JE_cutF hK b5 trivial (stsub_cons rfl (stsub_cons rfl stsub_nil)) (ht_cons ht_nil)
        exact JAl_nil
      dsimp only [List.cons_append, List.nil_append]
      refine JC_seq ?_
      refine JC_seq ?_
      refine JC_region ?_
      refine JL_dt rfl (det_loadKA rfl Try.isAgg25 Try.sizeOf25 rfl rfl) ?_
      refine JL_dt rfl (det_loadKA rfl Try.isAgg27 Try.sizeOf27 rfl rfl) ?_
      refine JL_step rfl rfl rfl (jo_callv rfl rfl Try.call21 rfl (lstarted_j l s ha pa hc pc)) fun _ => ?_
      refine JL_pd rfl (det_assign rfl) ?_
      refine JL_nil ?_
      refine JE_seq ?_
      refine JC_seq ?_
      refine JC_region ?_
      refine JL_pd rfl (det_move rfl) ?_
      refine JL_pd rfl (det_neq rfl rfl) ?_
      refine JL_nil ?_
      refine JE_seq ?_
      -- stop: cond
      refine JC_ifn rfl (fun h2 => ?_) (fun h2 => ?_)
      · exact absurd he h2
      · refine JC_skip ?_
        refine JE_seq ?_
        refine JC_seq ?_
        refine JC_draw [] (by kernel_rfl) ?_
        refine JA_pd (i := 0) rfl (by kernel_rfl) rfl rfl (det_move rfl) ?_
        refine JA_pd (i := 1) rfl (by kernel_rfl) rfl rfl (det_eql rfl rfl) ?_
        refine JA_pd (i := 2) rfl (by kernel_rfl) rfl rfl (det_move rfl) ?_
        -- stop: guard 2
        refine JA_is (d0 := 38) true rfl (by first | rfl | exact decide_eq_true ⟨rfl, rfl⟩) (fun h12 => ?_)
        refine JA_gdt (i := 3) rfl (by kernel_rfl) (by kernel_rfl) rfl rfl rfl rfl h12 (det_loadKA rfl Try.isAgg49 Try.sizeOf49 rfl rfl) ?_
        refine JA_gdt (i := 4) rfl (by kernel_rfl) (by kernel_rfl) rfl rfl rfl rfl h12 (det_loadKA rfl Try.isAgg25 Try.sizeOf25 rfl rfl) ?_
        refine JA_gdt (i := 5) rfl (by kernel_rfl) (by kernel_rfl) rfl rfl rfl rfl h12 (det_loadKA rfl Try.isAgg27 Try.sizeOf27 rfl rfl) ?_
        refine JA_gone (i := 6) (by kernel_rfl) rfl rfl rfl h12 rfl (jo_callv rfl rfl Try.call27 rfl (rTurn_j l s ha pa hc pc V h0 hB)) (fun _ => ⟨hsub_refl, fun _ h => h⟩) fun _ => ?_
        refine JA_gone (i := 7) (by kernel_rfl) rfl rfl rfl h12 rfl (jo_callv rfl rfl Try.call26 rfl (lTo_j ⟨_, _⟩)) (fun _ => ⟨hsub_refl, fun _ h => h⟩) fun _ => ?_
        refine JA_gpd (i := 8) rfl (by kernel_rfl) rfl rfl rfl rfl h12 (det_eqlA rfl rfl egt_49 (eqa_49 _ _ _ _)) ?_
        refine JA_pd (i := 9) rfl (by kernel_rfl) rfl rfl (det_pick_t rfl h12 rfl) ?_
        refine JA_pd (i := 10) rfl (by kernel_rfl) rfl rfl (det_move rfl) ?_
        refine JA_is (d0 := 46) true rfl (by first | rfl | exact decide_eq_true ⟨rfl, rfl⟩) (fun h13 => ?_)
        refine JA_gone (i := 11) (by kernel_rfl) rfl rfl rfl h13 rfl (jo_callv rfl rfl Try.call17 rfl (lawake_j)) (fun _ => ⟨hsub_refl, fun _ h => h⟩) fun _ => ?_
        refine JA_pd (i := 12) rfl (by kernel_rfl) rfl rfl (det_pick_t rfl h13 rfl) ?_
        refine JA_pd (i := 13) rfl (by kernel_rfl) rfl rfl (det_assign rfl) ?_
        refine JA_done (by kernel_rfl) ?_
        refine JE_seq ?_
        refine JC_ret ?_
        refine JE_out (.inl rfl) () (results1 Try.results4 (res_tmp rfl)) ?_ (List.Perm.refl _) (fun _ _ => trivial)
        rfl
    · refine JC_skip ?_
      refine JE_seq ?_
      refine JC_seq ?_
      -- stop: draw
      refine JC_cutN (γ := Nat) (fun _ => True) (fun b5 => [(5, pt b5), (6, I (startErr l s))]) (fun b5 => [bx b5 [I 0, I 0]]) (fun K hK => ?_) (fun b5 _ => ?_)
      · refine JC_draw [9] (by kernel_rfl) ?_
        refine JA_dt (i := 0) rfl (by kernel_rfl) (by kernel_rfl) rfl rfl (det_loadKA rfl Try.isAgg25 Try.sizeOf25 rfl rfl) ?_
        refine JA_dt (i := 2) rfl (by kernel_rfl) (by kernel_rfl) rfl rfl (det_loadKA rfl Try.isAgg27 Try.sizeOf27 rfl rfl) ?_
        refine JA_ready (rs := [1, 8]) (by kernel_rfl) rfl ?_
        refine JAl_cons (i := 1) rfl rfl (jo_call rfl rfl Try.call19 rfl (lLane_j l ha pa hc pc (by omega) (by omega))) (fun _ => ⟨hsub_drop 0 rfl, fun _ h => h.2⟩) (fun x14 => ?_) ?_
        · refine JA_ready (rs := [3, 8]) (by kernel_rfl) rfl ?_
          refine JAl_cons (i := 3) rfl rfl (jo_callv rfl rfl Try.call20 rfl (lStart_j s)) (fun _ => ⟨hsub_refl, fun _ h => h⟩) (fun _ => ?_) ?_
          · refine JA_ready (rs := [4, 8]) (by kernel_rfl) rfl ?_
            refine JAl_cons (i := 4) rfl rfl (jo_callv rfl rfl Try.call25 rfl (Turn_je l s x14.1.1 x14.2.1 x14.1.2 x14.2.2 he)) (fun _ => ⟨hsub_refl, fun _ h => h⟩) (fun _ => ?_) ?_
            · refine JA_pd (i := 5) rfl (by kernel_rfl) rfl rfl (det_move rfl) ?_
              refine JA_pd (i := 6) rfl (by kernel_rfl) rfl rfl (det_extract rfl rfl) ?_
              refine JA_pd (i := 7) rfl (by kernel_rfl) rfl rfl (det_extract rfl rfl) ?_
              refine JA_one (i := 8) (by kernel_rfl) rfl rfl (jo_alloc0 Try.zeroValue49 rfl) (fun _ => ⟨hsub_drop 1 rfl, fun _ h => h⟩) fun b5 => ?_
              refine JA_tail (i := 9) (by kernel_rfl) rfl rfl rfl rfl (jo_store rfl rfl rfl (by first | (simp only [splice_norm]; done) | (simp only [splice_norm]; rfl) | rfl) Try.sizeOf49 rfl rfl) fun _ => ?_
              refine JT_pd (i := 10) rfl (by kernel_rfl) rfl rfl (det_assign rfl) ?_
              refine JT_done (by kernel_rfl) ?_
              exact JE_cutF hK b5 trivial (stsub_cons rfl (stsub_cons rfl stsub_nil)) (ht_cons ht_nil)
            refine JAl_cons (i := 8) rfl rfl (jo_alloc0 Try.zeroValue49 rfl) (fun _ => ⟨hsub_drop 1 rfl, fun _ h => h⟩) (fun b5 => ?_) ?_
            · refine JA_one (i := 4) (by kernel_rfl) rfl rfl (jo_callv rfl rfl Try.call25 rfl (Turn_je l s x14.1.1 x14.2.1 x14.1.2 x14.2.2 he)) (fun _ => ⟨hsub_refl, fun _ h => h⟩) fun _ => ?_
              refine JA_pd (i := 5) rfl (by kernel_rfl) rfl rfl (det_move rfl) ?_
              refine JA_pd (i := 6) rfl (by kernel_rfl) rfl rfl (det_extract rfl rfl) ?_
              refine JA_pd (i := 7) rfl (by kernel_rfl) rfl rfl (det_extract rfl rfl) ?_
              refine JA_tail (i := 9) (by kernel_rfl) rfl rfl rfl rfl (jo_store rfl rfl rfl (by first | (simp only [splice_norm]; done) | (simp only [splice_norm]; rfl) | rfl) Try.sizeOf49 rfl rfl) fun _ => ?_
              refine JT_pd (i := 10) rfl (by kernel_rfl) rfl rfl (det_assign rfl) ?_
              refine JT_done (by kernel_rfl) ?_
              exact JE_cutF hK b5 trivial (stsub_cons rfl (stsub_cons rfl stsub_nil)) (ht_cons ht_nil)
            exact JAl_nil
          refine JAl_cons (i := 8) rfl rfl (jo_alloc0 Try.zeroValue49 rfl) (fun _ => ⟨hsub_drop 1 rfl, fun _ h => h⟩) (fun b5 => ?_) ?_
          · refine JA_one (i := 3) (by kernel_rfl) rfl rfl (jo_callv rfl rfl Try.call20 rfl (lStart_j s)) (fun _ => ⟨hsub_refl, fun _ h => h⟩) fun _ => ?_
            refine JA_one (i := 4) (by kernel_rfl) rfl rfl (jo_callv rfl rfl Try.call25 rfl (Turn_je l s x14.1.1 x14.2.1 x14.1.2 x14.2.2 he)) (fun _ => ⟨hsub_refl, fun _ h => h⟩) fun _ => ?_
            refine JA_pd (i := 5) rfl (by kernel_rfl) rfl rfl (det_move rfl) ?_
            refine JA_pd (i := 6) rfl (by kernel_rfl) rfl rfl (det_extract rfl rfl) ?_
            refine JA_pd (i := 7) rfl (by kernel_rfl) rfl rfl (det_extract rfl rfl) ?_
            refine JA_tail (i := 9) (by kernel_rfl) rfl rfl rfl rfl (jo_store rfl rfl rfl (by first | (simp only [splice_norm]; done) | (simp only [splice_norm]; rfl) | rfl) Try.sizeOf49 rfl rfl) fun _ => ?_
            refine JT_pd (i := 10) rfl (by kernel_rfl) rfl rfl (det_assign rfl) ?_
            refine JT_done (by kernel_rfl) ?_
            exact JE_cutF hK b5 trivial (stsub_cons rfl (stsub_cons rfl stsub_nil)) (ht_cons ht_nil)
          exact JAl_nil
        refine JAl_cons (i := 8) rfl rfl (jo_alloc0 Try.zeroValue49 rfl) (fun _ => ⟨hsub_drop 1 rfl, fun _ h => h⟩) (fun b5 => ?_) ?_
        · refine JA_one (i := 1) (by kernel_rfl) rfl rfl (jo_call rfl rfl Try.call19 rfl (lLane_j l ha pa hc pc (by omega) (by omega))) (fun _ => ⟨hsub_drop 0 rfl, fun _ h => h.2⟩) fun x14 => ?_
          refine JA_one (i := 3) (by kernel_rfl) rfl rfl (jo_callv rfl rfl Try.call20 rfl (lStart_j s)) (fun _ => ⟨hsub_refl, fun _ h => h⟩) fun _ => ?_
          refine JA_one (i := 4) (by kernel_rfl) rfl rfl (jo_callv rfl rfl Try.call25 rfl (Turn_je l s x14.1.1 x14.2.1 x14.1.2 x14.2.2 he)) (fun _ => ⟨hsub_refl, fun _ h => h⟩) fun _ => ?_
          refine JA_pd (i := 5) rfl (by kernel_rfl) rfl rfl (det_move rfl) ?_
          refine JA_pd (i := 6) rfl (by kernel_rfl) rfl rfl (det_extract rfl rfl) ?_
          refine JA_pd (i := 7) rfl (by kernel_rfl) rfl rfl (det_extract rfl rfl) ?_
          refine JA_tail (i := 9) (by kernel_rfl) rfl rfl rfl rfl (jo_store rfl rfl rfl (by first | (simp only [splice_norm]; done) | (simp only [splice_norm]; rfl) | rfl) Try.sizeOf49 rfl rfl) fun _ => ?_
          refine JT_pd (i := 10) rfl (by kernel_rfl) rfl rfl (det_assign rfl) ?_
          refine JT_done (by kernel_rfl) ?_
          exact JE_cutF hK b5 trivial (stsub_cons rfl (stsub_cons rfl stsub_nil)) (ht_cons ht_nil)
        exact JAl_nil
      dsimp only [List.cons_append, List.nil_append]
      refine JC_seq ?_
      refine JC_seq ?_
      refine JC_region ?_
      refine JL_dt rfl (det_loadKA rfl Try.isAgg25 Try.sizeOf25 rfl rfl) ?_
      refine JL_dt rfl (det_loadKA rfl Try.isAgg27 Try.sizeOf27 rfl rfl) ?_
      refine JL_step rfl rfl rfl (jo_callv rfl rfl Try.call21 rfl (lstarted_j l s ha pa hc pc)) fun _ => ?_
      refine JL_pd rfl (det_assign rfl) ?_
      refine JL_nil ?_
      refine JE_seq ?_
      refine JC_seq ?_
      refine JC_region ?_
      refine JL_pd rfl (det_move rfl) ?_
      refine JL_pd rfl (det_neq rfl rfl) ?_
      refine JL_nil ?_
      refine JE_seq ?_
      -- stop: cond
      refine JC_ifn rfl (fun h2 => ?_) (fun h2 => ?_)
      · refine JC_seq ?_
        refine JC_region ?_
        refine JL_pd rfl (det_move rfl) ?_
        refine JL_pd rfl (det_move rfl) ?_
        refine JL_pd rfl (det_eql rfl rfl) ?_
        refine JL_pd rfl (det_move rfl) ?_
        -- stop: guard 3
        refine JL_join1 8 4 (.bool true) (fun hj => ?_) ?_
        · refine JL_split (d0 := 28) rfl (fun q14 => ?_) (fun q14 => ?_)
          · refine JL_guard rfl rfl q14 ?_
            refine JL_dt rfl (det_loadKA rfl Try.isAgg49 Try.sizeOf49 rfl rfl) ?_
            refine JL_guard rfl rfl q14 ?_
            refine JL_pd rfl (det_build rfl (bld_49)) ?_
            refine JL_guard rfl rfl q14 ?_
            refine JL_pd rfl (det_eqlA rfl rfl egt_49 (eqa_49 _ _ _ _)) ?_
            refine JL_pd rfl (det_pick_t rfl q14 rfl) ?_
            refine JL_pd rfl (det_move rfl) ?_
            refine JL_split (d0 := 33) rfl (fun q15 => ?_) (fun q15 => ?_)
            · refine JL_guard rfl rfl q15 ?_
              refine JL_step rfl rfl rfl (jo_callv rfl rfl Try.call17 rfl (lawake_j)) fun _ => ?_
              refine JL_pd rfl (det_pick_t rfl q15 rfl) ?_
              refine JL_pd rfl (det_assign rfl) ?_
              exact hj (by kernel_rfl) (stsub_consB rfl (by clear hj; first | rfl | (simp only [q14, q15, Bool.and_true, Bool.true_and, Bool.false_and, Bool.and_false, Bool.or_true, Bool.true_or, Bool.or_false, Bool.false_or, Bool.not_true, Bool.not_false]; done) | (simp [q14, q15]; done) | (simp at q14; done) | (simp at q15; done) | (simp [q14, q15] <;> omega) | (exfalso; simp at q14 q15; omega)) stsub_nil)
            · refine JL_skip rfl rfl q15 rfl ?_
              refine JL_pd rfl (det_pick_f rfl q15 rfl) ?_
              refine JL_pd rfl (det_assign rfl) ?_
              exact hj (by kernel_rfl) (stsub_consB rfl (by clear hj; first | rfl | (simp only [q14, q15, Bool.and_true, Bool.true_and, Bool.false_and, Bool.and_false, Bool.or_true, Bool.true_or, Bool.or_false, Bool.false_or, Bool.not_true, Bool.not_false]; done) | (simp [q14, q15]; done) | (simp at q14; done) | (simp at q15; done) | (simp [q14, q15] <;> omega) | (exfalso; simp at q14 q15; omega)) stsub_nil)
          · refine JL_skip rfl rfl q14 rfl ?_
            refine JL_skip rfl rfl q14 rfl ?_
            refine JL_skip rfl rfl q14 rfl ?_
            refine JL_pd rfl (det_pick_f rfl q14 rfl) ?_
            refine JL_pd rfl (det_move rfl) ?_
            refine JL_skip rfl rfl rfl rfl ?_
            refine JL_pd rfl (det_pick_f rfl rfl rfl) ?_
            refine JL_pd rfl (det_assign rfl) ?_
            exact hj (by kernel_rfl) (stsub_consB rfl (by clear hj; first | rfl | (simp only [q14, Bool.and_true, Bool.true_and, Bool.false_and, Bool.and_false, Bool.or_true, Bool.true_or, Bool.or_false, Bool.false_or, Bool.not_true, Bool.not_false]; done) | (simp [q14]; done) | (simp at q14; done) | (simp [q14] <;> omega) | (exfalso; simp at q14; omega)) stsub_nil)
        refine JL_nil ?_
        refine JE_seq ?_
        refine JC_ret ?_
        refine JE_seq_ret ?_
        -- stop: out
        refine JE_out (.inl rfl) () (results1 Try.results4 (res_tmp rfl)) rfl (List.Perm.refl _) (fun _ _ => trivial)
      · exact absurd h2 he
end Go.Proofs.Ytcfhbnfincpehaa

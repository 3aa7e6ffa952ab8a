/- The statements about bill: BillCoin. -/
import Derived.Test.YtjbmkdbgobmclaaB22
set_option linter.unusedSimpArgs false
set_option linter.unusedVariables false
namespace Go.Proofs.Ytjbmkdbgobmclaa
open Go.RowKit Go.Shelf

set_option maxRecDepth 100000 in
set_option maxHeartbeats 1000000 in
theorem BillCoin_j (sum : Int) (a : Option Addr) (c : Nat) (ws : List Int) : Cv Try.prog 6 [I sum, .slice a ws.length c] (KSl a ws.length c encI ws) (.bool true) := by
  refine Cx_of Try.func6 rfl Try.ntmps6 rfl fun w0 M0 => ?_
  refine JC_seq ?_
  refine JC_region ?_
  refine JL_pd rfl (det_assign rfl) ?_
  refine JL_nil ?_
  refine JE_seq ?_
  refine JC_seq ?_
  refine JC_seq ?_
  refine JC_region ?_
  refine JL_pd rfl (det_move rfl) ?_
  refine JL_pd rfl (det_len rfl Try.runUnderlying22) ?_
  refine JL_pd rfl (det_gtr rfl rfl) ?_
  refine JL_pd rfl (det_move rfl) ?_
  -- stop: guard 3
  by_cases h1 : 14 < ws.length
  · refine JL_is (d0 := 15) true rfl (by exact decide_eq_true (by omega)) (fun g1 => ?_)
    refine JL_skip rfl rfl g1 rfl ?_
    refine JL_skip rfl rfl g1 rfl ?_
    refine JL_skip rfl rfl g1 rfl ?_
    refine JL_skip rfl rfl g1 rfl ?_
    refine JL_pd rfl (det_pick_t rfl g1 rfl) ?_
    refine JL_nil ?_
    refine JE_seq ?_
    refine JC_condT rfl rfl ?_
    refine JC_seq ?_
    refine JC_region ?_
    refine JL_step rfl rfl rfl (jo_callv rfl rfl Try.call16 rfl (awake_j)) fun _ => ?_
    refine JL_pd rfl (det_assign rfl) ?_
    refine JL_nil ?_
    refine JE_seq ?_
    refine JC_ret ?_
    refine JE_seq_ret ?_
    -- stop: out
    refine JE_out (.inl rfl) () (results1 Try.results6 (res_tmp rfl)) rfl (List.Perm.refl _) (fun _ _ => trivial)
  · have hlj := lList_j ws a c (by omega)
    have hfj := ShareFault_j sum a c ws (by omega)
    refine JL_is (d0 := 15) false rfl (by exact decide_eq_false (by omega)) (fun g1 => ?_)
    refine JL_guard rfl rfl g1 ?_
    refine JL_pd rfl (det_move rfl) ?_
    refine JL_guard rfl rfl g1 ?_
    refine JL_pd rfl (det_move rfl) ?_
    refine JL_guard rfl rfl g1 ?_
    refine JL_step rfl rfl rfl (jo_callv rfl rfl Try.call19 rfl (hfj)) fun _ => ?_
    refine JL_guard rfl rfl g1 ?_
    refine JL_pd rfl (det_neq rfl rfl) ?_
    refine JL_pd rfl (det_pick_f rfl g1 rfl) ?_
    refine JL_nil ?_
    refine JE_seq ?_
    -- stop: cond
    refine JC_ifn rfl (fun h2 => ?_) (fun h2 => ?_)
    · refine JC_seq ?_
      refine JC_region ?_
      refine JL_step rfl rfl rfl (jo_callv rfl rfl Try.call16 rfl (awake_j)) fun _ => ?_
      refine JL_pd rfl (det_assign rfl) ?_
      refine JL_nil ?_
      refine JE_seq ?_
      refine JC_ret ?_
      refine JE_seq_ret ?_
      -- stop: out
      refine JE_out (.inl rfl) () (results1 Try.results6 (res_tmp rfl)) rfl (List.Perm.refl _) (fun _ _ => trivial)
    · have hE : shareE sum ws = 0 := h2
      obtain ⟨V, hW⟩ := share_of hE
      have hwl := V.n
      have hsl := sharesV_len sum ws
      have hs0 := V.s0
      have hs1 := V.s1
      have hall := sum_bd ws V.w
      refine JC_skip ?_
      refine JE_seq ?_
      refine JC_seq ?_
      refine JC_region ?_
      refine JL_pd rfl (det_move rfl) ?_
      refine JL_pd rfl (det_move rfl) ?_
      refine JL_step rfl rfl rfl (jo_call rfl rfl Try.call18 rfl (hlj)) fun x25 => ?_
      -- stop: op  3 t26 := (call (Call (value f17) (t23 t25) (3 22)))   <0 2 2>   104
      refine JL_step rfl rfl rfl (jo_call rfl rfl Try.call17 rfl (Share_jv sum x25.1 x25.2 ws hE)) fun xs => ?_
      refine JL_pd rfl (det_move rfl) ?_
      refine JL_pd rfl (det_extract rfl rfl) ?_
      refine JL_pd rfl (det_extract rfl rfl) ?_
      refine JL_pd rfl (det_assign rfl) ?_
      refine JL_pd rfl (det_assign rfl) ?_
      refine JL_nil ?_
      refine JE_seq ?_
      refine JC_seq ?_
      refine JC_seq ?_
      refine JC_region ?_
      refine JL_pd rfl (det_move rfl) ?_
      refine JL_pd rfl (det_neq rfl rfl) ?_
      refine JL_pd rfl (det_move rfl) ?_
      -- stop: guard 2
      refine JL_is (d0 := 31) false rfl (by rfl) (fun g2 => ?_)
      refine JL_guard rfl rfl g2 ?_
      refine JL_pd rfl (det_move rfl) ?_
      refine JL_guard rfl rfl g2 ?_
      refine JL_pd rfl (det_len rfl Try.runUnderlying22) ?_
      refine JL_guard rfl rfl g2 ?_
      refine JL_pd rfl (det_move rfl) ?_
      refine JL_guard rfl rfl g2 ?_
      refine JL_pd rfl (det_len rfl Try.runUnderlying22) ?_
      refine JL_guard rfl rfl g2 ?_
      refine JL_pd rfl (det_neq rfl rfl) ?_
      refine JL_pd rfl (det_pick_f rfl g2 rfl) ?_
      refine JL_nil ?_
      refine JE_seq ?_
      -- stop: cond
      refine JC_ifn rfl (fun h3 => ?_) (fun h3 => ?_)
      · exact absurd (by omega) h3
      refine JC_skip ?_
      refine JE_seq ?_
      refine JC_seq ?_
      refine JC_region ?_
      refine JL_pd rfl (det_assign rfl) ?_
      refine JL_pd rfl (det_assign rfl) ?_
      refine JL_nil ?_
      refine JE_seq ?_
      refine JC_seq ?_
      refine JC_seq ?_
      refine JC_region ?_
      refine JL_pd rfl (det_assign rfl) ?_
      refine JL_nil ?_
      refine JE_seq ?_
      refine JC_block ?_
      -- stop: loop
      refine JC_loopF (γ := Nat) (fun i => i ≤ ws.length) (fun i => [(9, I i), (8, I (paidV sum ws i)), (7, I (ws.take i).sum)]) (fun _ => []) (fun i => ws.length - i) 0 (Nat.zero_le _) (stsub_consI rfl rfl (stsub_consI rfl (paid_0 sum ws).symm (stsub_consI rfl (by rw [List.take_zero]; rfl) stsub_nil))) ht_nil ?_
      intro i hi K hK
      dsimp only [List.cons_append, List.nil_append]
      have hbd := sum_bd (ws.take i) fun y hy => V.w y (List.mem_of_mem_take hy)
      rw [List.length_take] at hbd
      obtain ⟨p1, p2, p3, p4⟩ := paid_bd V hW i
      refine JC_seq ?_
      refine JC_seq ?_
      refine JC_region ?_
      refine JL_pd rfl (det_move rfl) ?_
      refine JL_pd rfl (det_move rfl) ?_
      refine JL_pd rfl (det_len rfl Try.runUnderlying22) ?_
      refine JL_pd rfl (det_lss rfl rfl) ?_
      refine JL_nil ?_
      refine JE_seq ?_
      -- stop: cond
      refine JC_if rfl (fun h4 => ?_) (fun h4 => ?_)
      · have hi2 : i < ws.length := by omega
        have hi3 : i < (sharesV sum ws).length := by omega
        have hts := take_sum hi2
        have hwi := V.w _ (List.getElem_mem hi2)
        obtain ⟨q1, q2, q3, q4⟩ := paid_bd V hW (i + 1)
        have hsg := sharesV_get hi3
        refine JC_skip ?_
        refine JE_seq ?_
        refine JC_seq ?_
        refine JC_block ?_
        refine JC_seq ?_
        refine JC_region ?_
        refine JL_pd rfl (det_move rfl) ?_
        refine JL_pd rfl (det_move rfl) ?_
        refine JL_pd rfl (det_move rfl) ?_
        refine JL_dt rfl (det_indexAddr rfl rfl (by first | rfl | omega) (by first | assumption | omega | decide) Try.runUnderlying22 Try.sizeOf3) ?_
        refine JL_dt rfl (det_loadE rfl (by first | assumption | omega | decide) Try.isAgg3 rfl rfl) ?_
        refine JL_pd rfl (det_add rfl rfl ⟨by omega, by omega⟩) ?_
        refine JL_pd rfl (det_assign rfl) ?_
        refine JL_nil ?_
        refine JE_seq ?_
        refine JC_region ?_
        refine JL_pd rfl (det_move rfl) ?_
        refine JL_pd rfl (det_move rfl) ?_
        refine JL_pd rfl (det_move rfl) ?_
        refine JL_dt rfl (det_indexAddr rfl rfl (by first | rfl | omega) (by first | assumption | omega | decide) Try.runUnderlying22 Try.sizeOf3) ?_
        refine JL_dt rfl (det_loadE rfl (by first | assumption | omega | decide) Try.isAgg3 rfl rfl) ?_
        refine JL_pd rfl (det_add rfl rfl ⟨by omega, by omega⟩) ?_
        refine JL_pd rfl (det_assign rfl) ?_
        refine JL_nil ?_
        refine JE_block ?_
        refine JE_seq ?_
        refine JC_region ?_
        refine JL_pd rfl (det_move rfl) ?_
        refine JL_pd rfl (det_add rfl rfl ⟨by omega, by omega⟩) ?_
        refine JL_pd rfl (det_assign rfl) ?_
        refine JL_nil ?_
        -- stop: end
        refine JE_roundF hK (i + 1) (by omega) (by omega) (stsub_consI rfl (by omega) (stsub_consI rfl (by omega) (stsub_consI rfl (by omega) stsub_nil))) ht_nil
      · obtain rfl : i = ws.length := by omega
        rw [List.take_length, paid_all hW]
        refine JC_exit ?_
        refine JE_seq_exit ?_
        refine JE_then_exit ?_
        refine JE_block_here ?_
        refine JE_seq ?_
        refine JC_seq ?_
        refine JC_seq ?_
        refine JC_region ?_
        refine JL_pd rfl (det_assign rfl) ?_
        refine JL_nil ?_
        refine JE_seq ?_
        refine JC_block ?_
        -- stop: loop
        refine JC_loopF (γ := Nat) (fun i => i ≤ ws.length) (fun i => [(10, I i)]) (fun _ => []) (fun i => ws.length - i) 0 (Nat.zero_le _) (stsub_consI rfl rfl stsub_nil) ht_nil ?_
        intro i hi K1 hK1
        dsimp only [List.cons_append, List.nil_append]
        refine JC_seq ?_
        refine JC_seq ?_
        refine JC_region ?_
        refine JL_pd rfl (det_move rfl) ?_
        refine JL_pd rfl (det_move rfl) ?_
        refine JL_pd rfl (det_len rfl Try.runUnderlying22) ?_
        refine JL_pd rfl (det_lss rfl rfl) ?_
        refine JL_nil ?_
        refine JE_seq ?_
        -- stop: cond
        refine JC_if rfl (fun h5 => ?_) (fun h5 => ?_)
        · have hi2 : i < ws.length := by omega
          have hi3 : i < (sharesV sum ws).length := by omega
          have hwi := V.w _ (List.getElem_mem hi2)
          have hsg := sharesV_get hi3
          obtain ⟨u1, u2, u3, u4, u5⟩ := paid_up V hW i hi2
          rw [← hsg] at u1 u2 u3 u4 u5
          have m1 : 0 ≤ sum * ws[i] ∧ sum * ws[i] ≤ 1000000 * 1000 := ⟨Int.mul_nonneg hs0 hwi.1, Int.mul_le_mul hs1 hwi.2 hwi.1 (by omega)⟩
          refine JC_skip ?_
          refine JE_seq ?_
          refine JC_seq ?_
          refine JC_block ?_
          refine JC_seq ?_
          refine JC_draw [] (by kernel_rfl) ?_
          refine JA_pd (i := 0) rfl (by kernel_rfl) rfl rfl (det_move rfl) ?_
          refine JA_pd (i := 1) rfl (by kernel_rfl) rfl rfl (det_move rfl) ?_
          refine JA_dt (i := 2) rfl (by kernel_rfl) (by kernel_rfl) rfl rfl (det_indexAddr rfl rfl (by first | rfl | omega) (by first | assumption | omega | decide) Try.runUnderlying22 Try.sizeOf3) ?_
          refine JA_dt (i := 3) rfl (by kernel_rfl) (by kernel_rfl) rfl rfl (det_loadE rfl (by first | assumption | omega | decide) Try.isAgg3 rfl rfl) ?_
          refine JA_pd (i := 4) rfl (by kernel_rfl) rfl rfl (det_move rfl) ?_
          refine JA_pd (i := 5) rfl (by kernel_rfl) rfl rfl (det_mul rfl rfl ⟨by omega, by omega⟩) ?_
          refine JA_pd (i := 6) rfl (by kernel_rfl) rfl rfl (det_move rfl) ?_
          refine JA_pd (i := 7) rfl (by kernel_rfl) rfl rfl (det_move rfl) ?_
          refine JA_pd (i := 8) rfl (by kernel_rfl) rfl rfl (det_move rfl) ?_
          refine JA_dt (i := 9) rfl (by kernel_rfl) (by kernel_rfl) rfl rfl (det_indexAddr rfl rfl (by first | rfl | omega) (by first | assumption | omega | decide) Try.runUnderlying22 Try.sizeOf3) ?_
          refine JA_dt (i := 10) rfl (by kernel_rfl) (by kernel_rfl) rfl rfl (det_loadE rfl (by first | assumption | omega | decide) Try.isAgg3 rfl rfl) ?_
          refine JA_pd (i := 11) rfl (by kernel_rfl) rfl rfl (det_mul rfl rfl ⟨by omega, by omega⟩) ?_
          refine JA_pd (i := 12) rfl (by kernel_rfl) rfl rfl (det_sub rfl rfl ⟨by omega, by omega⟩) ?_
          refine JA_pd (i := 13) rfl (by kernel_rfl) rfl rfl (det_assign rfl) ?_
          refine JA_done (by kernel_rfl) ?_
          refine JE_seq ?_
          refine JC_seq ?_
          refine JC_region ?_
          refine JL_pd rfl (det_move rfl) ?_
          refine JL_pd rfl (det_move rfl) ?_
          refine JL_pd rfl (det_neg rfl ⟨by omega, by omega⟩) ?_
          refine JL_pd rfl (det_leq rfl rfl) ?_
          refine JL_pd rfl (det_move rfl) ?_
          -- stop: guard 4
          refine JL_join1 25 104 (.bool false) (fun hj => ?_) ?_
          · refine JL_split (d0 := 79) rfl (fun q1 => ?_) (fun q1 => ?_)
            · refine JL_skip rfl rfl q1 rfl ?_
              refine JL_skip rfl rfl q1 rfl ?_
              refine JL_skip rfl rfl q1 rfl ?_
              refine JL_pd rfl (det_pick_t rfl q1 rfl) ?_
              refine JL_pd rfl (det_move rfl) ?_
              refine JL_skip rfl rfl rfl rfl ?_
              refine JL_skip rfl rfl rfl rfl ?_
              refine JL_skip rfl rfl rfl rfl ?_
              refine JL_skip rfl rfl rfl rfl ?_
              refine JL_skip rfl rfl rfl rfl ?_
              refine JL_skip rfl rfl rfl rfl ?_
              refine JL_skipU rfl rfl rfl ?_
              refine JL_skipU rfl rfl rfl ?_
              refine JL_skipU rfl rfl rfl ?_
              refine JL_skipU rfl rfl rfl ?_
              refine JL_skipU rfl rfl rfl ?_
              refine JL_skip rfl rfl rfl rfl ?_
              refine JL_pd rfl (det_pick_t rfl rfl rfl) ?_
              refine JL_pd rfl (det_move rfl) ?_
              refine JL_skip rfl rfl rfl rfl ?_
              refine JL_skip rfl rfl rfl rfl ?_
              refine JL_skip rfl rfl rfl rfl ?_
              refine JL_skip rfl rfl rfl rfl ?_
              refine JL_skip rfl rfl rfl rfl ?_
              refine JL_pd rfl (det_pick_t rfl rfl rfl) ?_
              exact hj (by kernel_rfl) (stsub_consB rfl (by clear hj; first | rfl | (simp only [q1, Bool.and_true, Bool.true_and, Bool.false_and, Bool.and_false, Bool.or_true, Bool.true_or, Bool.or_false, Bool.false_or, Bool.not_true, Bool.not_false]; done) | (simp [q1]; done) | (simp at q1; done) | (simp [q1] <;> omega) | (exfalso; simp at q1; omega)) stsub_nil)
            · refine JL_guard rfl rfl q1 ?_
              refine JL_pd rfl (det_move rfl) ?_
              refine JL_guard rfl rfl q1 ?_
              refine JL_pd rfl (det_move rfl) ?_
              refine JL_guard rfl rfl q1 ?_
              refine JL_pd rfl (det_geq rfl rfl) ?_
              refine JL_pd rfl (det_pick_f rfl q1 rfl) ?_
              refine JL_pd rfl (det_move rfl) ?_
              refine JL_split (d0 := 84) rfl (fun q2 => ?_) (fun q2 => ?_)
              · refine JL_skip rfl rfl q2 rfl ?_
                refine JL_skip rfl rfl q2 rfl ?_
                refine JL_skip rfl rfl q2 rfl ?_
                refine JL_skip rfl rfl q2 rfl ?_
                refine JL_skip rfl rfl q2 rfl ?_
                refine JL_skip rfl rfl q2 rfl ?_
                refine JL_skipU rfl rfl rfl ?_
                refine JL_skipU rfl rfl rfl ?_
                refine JL_skipU rfl rfl rfl ?_
                refine JL_skipU rfl rfl rfl ?_
                refine JL_skipU rfl rfl rfl ?_
                refine JL_skip rfl rfl q2 rfl ?_
                refine JL_pd rfl (det_pick_t rfl q2 rfl) ?_
                refine JL_pd rfl (det_move rfl) ?_
                refine JL_skip rfl rfl rfl rfl ?_
                refine JL_skip rfl rfl rfl rfl ?_
                refine JL_skip rfl rfl rfl rfl ?_
                refine JL_skip rfl rfl rfl rfl ?_
                refine JL_skip rfl rfl rfl rfl ?_
                refine JL_pd rfl (det_pick_t rfl rfl rfl) ?_
                exact hj (by kernel_rfl) (stsub_consB rfl (by clear hj; first | rfl | (simp only [q1, q2, Bool.and_true, Bool.true_and, Bool.false_and, Bool.and_false, Bool.or_true, Bool.true_or, Bool.or_false, Bool.false_or, Bool.not_true, Bool.not_false]; done) | (simp [q1, q2]; done) | (simp at q1; done) | (simp at q2; done) | (simp [q1, q2] <;> omega) | (exfalso; simp at q1 q2; omega) | (simp [q2] at q1; done) | (simp [q1] at q2; done)) stsub_nil)
              · refine JL_guard rfl rfl q2 ?_
                refine JL_pd rfl (det_move rfl) ?_
                refine JL_guard rfl rfl q2 ?_
                refine JL_pd rfl (det_move rfl) ?_
                refine JL_guard rfl rfl q2 ?_
                refine JL_dt rfl (det_indexAddr rfl rfl (by first | rfl | omega) (by first | assumption | omega | decide) Try.runUnderlying22 Try.sizeOf3) ?_
                refine JL_guard rfl rfl q2 ?_
                refine JL_dt rfl (det_loadE rfl (by first | assumption | omega | decide) Try.isAgg3 rfl rfl) ?_
                refine JL_guard rfl rfl q2 ?_
                refine JL_pd rfl (det_eql rfl rfl) ?_
                refine JL_guard rfl rfl q2 ?_
                refine JL_pd rfl (det_move rfl) ?_
                refine JL_split (d0 := 90) rfl (fun q3 => ?_) (fun q3 => ?_)
                · refine JL_guard rfl rfl q3 ?_
                  refine JL_pd rfl (det_move rfl) ?_
                  refine JL_guard rfl rfl q3 ?_
                  refine JL_pd rfl (det_move rfl) ?_
                  refine JL_guard rfl rfl q3 ?_
                  refine JL_dt rfl (det_indexAddr rfl rfl (by first | rfl | omega) (by first | assumption | omega | decide) Try.runUnderlying22 Try.sizeOf3) ?_
                  refine JL_guard rfl rfl q3 ?_
                  refine JL_dt rfl (det_loadE rfl (by first | assumption | omega | decide) Try.isAgg3 rfl rfl) ?_
                  refine JL_guard rfl rfl q3 ?_
                  refine JL_pd rfl (det_neq rfl rfl) ?_
                  refine JL_guard rfl rfl q2 ?_
                  refine JL_pd rfl (det_pick_t rfl q3 rfl) ?_
                  refine JL_pd rfl (det_pick_f rfl q2 rfl) ?_
                  refine JL_pd rfl (det_move rfl) ?_
                  refine JL_split (d0 := 98) rfl (fun q4 => ?_) (fun q4 => ?_)
                  · refine JL_skip rfl rfl q4 rfl ?_
                    refine JL_skip rfl rfl q4 rfl ?_
                    refine JL_skip rfl rfl q4 rfl ?_
                    refine JL_skip rfl rfl q4 rfl ?_
                    refine JL_skip rfl rfl q4 rfl ?_
                    refine JL_pd rfl (det_pick_t rfl q4 rfl) ?_
                    exact hj (by kernel_rfl) (stsub_consB rfl (by clear hj; first | rfl | (simp only [q1, q2, q3, q4, Bool.and_true, Bool.true_and, Bool.false_and, Bool.and_false, Bool.or_true, Bool.true_or, Bool.or_false, Bool.false_or, Bool.not_true, Bool.not_false]; done) | (simp [q1, q2, q3, q4]; done) | (simp at q1; done) | (simp at q2; done) | (simp at q3; done) | (simp at q4; done) | (simp [q1, q2, q3, q4] <;> omega) | (exfalso; simp at q1 q2 q3 q4; omega) | (simp [q2, q3, q4] at q1; done) | (simp [q1, q3, q4] at q2; done) | (simp [q1, q2, q4] at q3; done) | (simp [q1, q2, q3] at q4; done)) stsub_nil)
                  · refine JL_guard rfl rfl q4 ?_
                    refine JL_pd rfl (det_move rfl) ?_
                    refine JL_guard rfl rfl q4 ?_
                    refine JL_pd rfl (det_move rfl) ?_
                    refine JL_guard rfl rfl q4 ?_
                    refine JL_dt rfl (det_indexAddr rfl rfl (by first | rfl | omega) (by first | assumption | omega | decide) Try.runUnderlying22 Try.sizeOf3) ?_
                    refine JL_guard rfl rfl q4 ?_
                    refine JL_dt rfl (det_loadE rfl (by first | assumption | omega | decide) Try.isAgg3 rfl rfl) ?_
                    refine JL_guard rfl rfl q4 ?_
                    refine JL_pd rfl (det_lss rfl rfl) ?_
                    refine JL_pd rfl (det_pick_f rfl q4 rfl) ?_
                    exact hj (by kernel_rfl) (stsub_consB rfl (by clear hj; first | rfl | (simp only [q1, q2, q3, q4, Bool.and_true, Bool.true_and, Bool.false_and, Bool.and_false, Bool.or_true, Bool.true_or, Bool.or_false, Bool.false_or, Bool.not_true, Bool.not_false]; done) | (simp [q1, q2, q3, q4]; done) | (simp at q1; done) | (simp at q2; done) | (simp at q3; done) | (simp at q4; done) | (simp [q1, q2, q3, q4] <;> omega) | (exfalso; simp at q1 q2 q3 q4; omega) | (simp [q2, q3, q4] at q1; done) | (simp [q1, q3, q4] at q2; done) | (simp [q1, q2, q4] at q3; done) | (simp [q1, q2, q3] at q4; done)) stsub_nil)
                · refine JL_skip rfl rfl q3 rfl ?_
                  refine JL_skip rfl rfl q3 rfl ?_
                  refine JL_skip rfl rfl q3 rfl ?_
                  refine JL_skip rfl rfl q3 rfl ?_
                  refine JL_skip rfl rfl q3 rfl ?_
                  refine JL_guard rfl rfl q2 ?_
                  refine JL_pd rfl (det_pick_f rfl q3 rfl) ?_
                  refine JL_pd rfl (det_pick_f rfl q2 rfl) ?_
                  refine JL_pd rfl (det_move rfl) ?_
                  refine JL_guard rfl rfl rfl ?_
                  refine JL_pd rfl (det_move rfl) ?_
                  refine JL_guard rfl rfl rfl ?_
                  refine JL_pd rfl (det_move rfl) ?_
                  refine JL_guard rfl rfl rfl ?_
                  refine JL_dt rfl (det_indexAddr rfl rfl (by first | rfl | omega) (by first | assumption | omega | decide) Try.runUnderlying22 Try.sizeOf3) ?_
                  refine JL_guard rfl rfl rfl ?_
                  refine JL_dt rfl (det_loadE rfl (by first | assumption | omega | decide) Try.isAgg3 rfl rfl) ?_
                  refine JL_guard rfl rfl rfl ?_
                  refine JL_pd rfl (det_lss rfl rfl) ?_
                  refine JL_pd rfl (det_pick_f rfl rfl rfl) ?_
                  exact hj (by kernel_rfl) (stsub_consB rfl (by clear hj; first | rfl | (simp only [q1, q2, q3, Bool.and_true, Bool.true_and, Bool.false_and, Bool.and_false, Bool.or_true, Bool.true_or, Bool.or_false, Bool.false_or, Bool.not_true, Bool.not_false]; done) | (simp [q1, q2, q3]; done) | (simp at q1; done) | (simp at q2; done) | (simp at q3; done) | (simp [q1, q2, q3] <;> omega) | (exfalso; simp at q1 q2 q3; omega) | (simp [q2, q3] at q1; done) | (simp [q1, q3] at q2; done) | (simp [q1, q2] at q3; done)) stsub_nil)
          refine JL_nil ?_
          refine JE_seq ?_
          refine JC_condF rfl rfl ?_
          refine JC_skip ?_
          refine JE_block ?_
          refine JE_seq ?_
          refine JC_region ?_
          refine JL_pd rfl (det_move rfl) ?_
          refine JL_pd rfl (det_add rfl rfl ⟨by omega, by omega⟩) ?_
          refine JL_pd rfl (det_assign rfl) ?_
          refine JL_nil ?_
          -- stop: end
          refine JE_roundF hK1 (i + 1) (by omega) (by omega) (stsub_consI rfl (by omega) stsub_nil) ht_nil
        · refine JC_exit ?_
          refine JE_seq_exit ?_
          refine JE_then_exit ?_
          refine JE_block_here ?_
          refine JE_seq ?_
          refine JC_seq ?_
          refine JC_region ?_
          refine JL_pd rfl (det_move rfl) ?_
          refine JL_pd rfl (det_move rfl) ?_
          refine JL_pd rfl (det_eql rfl rfl) ?_
          refine JL_pd rfl (det_move rfl) ?_
          -- stop: guard 3
          refine JL_is (d0 := 108) true rfl (by exact decide_eq_true rfl) (fun g3 => ?_)
          refine JL_guard rfl rfl g3 ?_
          refine JL_step rfl rfl rfl (jo_callv rfl rfl Try.call16 rfl (awake_j)) fun _ => ?_
          refine JL_pd rfl (det_pick_t rfl g3 rfl) ?_
          refine JL_pd rfl (det_assign rfl) ?_
          refine JL_nil ?_
          refine JE_seq ?_
          refine JC_ret ?_
          -- stop: out
          refine JE_out (.inl rfl) () (results1 Try.results6 (res_tmp rfl)) rfl (List.Perm.refl _) (fun _ _ => trivial)
end Go.Proofs.Ytjbmkdbgobmclaa

/- The statements about cycle: CycleLocks. -/
import Derived.Test.YtgbfjcgjcnndpaaC45
set_option linter.unusedSimpArgs false
set_option linter.unusedVariables false
namespace Go.Proofs.Ytgbfjcgjcnndpaa
open Go.RowKit Go.Shelf

set_option maxRecDepth 100000 in
set_option maxHeartbeats 1000000 in
theorem CycleLocks_j (m : Mc) (a : MA) : Cv Try.prog 5 [.agg #[I m.states, .slice a.sa m.steps.length a.sc, .slice a.ra m.running.length a.rc, .slice a.ka m.locks.length a.kc]] (KMc m a) (.bool true) := by
  refine Cx_of Try.func5 rfl Try.ntmps5 rfl fun w0 M0 => ?_
  refine JC_seq ?_
  refine JC_region ?_
  refine JL_step rfl rfl rfl (jo_box rfl rfl) fun b1 => ?_
  refine JL_pd rfl (det_assign rfl) ?_
  refine JL_nil ?_
  refine JE_seq ?_
  refine JC_seq ?_
  refine JC_seq ?_
  refine JC_region ?_
  refine JL_dt rfl (det_loadKA rfl Try.isAgg26 Try.sizeOf26 rfl rfl) ?_
  refine JL_step rfl rfl rfl (jo_callv rfl rfl Try.call17 rfl (Thin_j m a)) fun _ => ?_
  refine JL_pd rfl (det_not rfl) ?_
  refine JL_pd rfl (det_move rfl) ?_
  -- stop: guard 3
  cases ht : thinB m with
  | false =>
    refine JL_is (d0 := 12) true rfl (by rfl) (fun g1 => ?_)
    refine JL_skip rfl rfl g1 rfl ?_
    refine JL_skip rfl rfl g1 rfl ?_
    refine JL_skip rfl rfl g1 rfl ?_
    refine JL_skip rfl rfl g1 rfl ?_
    refine JL_skipU rfl rfl rfl ?_
    refine JL_skipU rfl rfl rfl ?_
    refine JL_skipU rfl rfl rfl ?_
    refine JL_skipU rfl rfl rfl ?_
    refine JL_skip rfl rfl g1 rfl ?_
    refine JL_pd rfl (det_pick_t rfl g1 rfl) ?_
    refine JL_nil ?_
    refine JE_seq ?_
    -- stop: cond
    refine JC_cond rfl (fun h1 => ?_) (fun h1 => ?_)
    · refine JC_seq ?_
      refine JC_region ?_
      refine JL_step rfl rfl rfl (jo_callv rfl rfl Try.call18 rfl (wakes_j)) fun _ => ?_
      refine JL_pd rfl (det_assign rfl) ?_
      refine JL_nil ?_
      refine JE_seq ?_
      refine JC_ret ?_
      refine JE_seq_ret ?_
      -- stop: out
      refine JE_out (.inl rfl) () (results1 Try.results5 (res_tmp rfl)) rfl (List.Perm.refl _) (fun _ _ => trivial)
    · cases h1
  | true =>
    have hth := thin_lens ht
    refine JL_is (d0 := 12) false rfl (by rfl) (fun g1 => ?_)
    refine JL_guard rfl rfl g1 ?_
    refine JL_dt rfl (det_loadKA rfl Try.isAgg26 Try.sizeOf26 rfl rfl) ?_
    refine JL_guard rfl rfl g1 ?_
    refine JL_step rfl rfl rfl (jo_callv rfl rfl Try.call30 rfl (Fault_j m a)) fun _ => ?_
    refine JL_guard rfl rfl g1 ?_
    refine JL_pd rfl (det_eql rfl rfl) ?_
    refine JL_guard rfl rfl g1 ?_
    refine JL_pd rfl (det_move rfl) ?_
    -- stop: guard 7
    by_cases he : fault m = 0
    · have V := valid_of he
      refine JL_is (d0 := 16) true rfl (by exact decide_eq_true he) (fun g2 => ?_)
      refine JL_guard rfl rfl g2 ?_
      refine JL_dt rfl (det_loadKA rfl Try.isAgg26 Try.sizeOf26 rfl rfl) ?_
      refine JL_guard rfl rfl g2 ?_
      -- stop: op  9 t18 := (call (Call (value f31) (t17) (26)))   <8 7 7>   127
      refine JL_step rfl rfl rfl (jo_call rfl rfl Try.call31 rfl (Candidates_j m a V)) fun ⟨ca, cc⟩ => ?_
      refine JL_guard rfl rfl g2 ?_
      refine JL_pd rfl (det_len rfl Try.runUnderlying24) ?_
      refine JL_guard rfl rfl g2 ?_
      refine JL_pd rfl (det_gtr rfl rfl) ?_
      refine JL_guard rfl rfl g1 ?_
      refine JL_pd rfl (det_pick_t rfl g2 rfl) ?_
      refine JL_pd rfl (det_pick_f rfl g1 rfl) ?_
      refine JL_nil ?_
      refine JE_seq ?_
      -- stop: cond
      refine JC_cond rfl (fun h1 => ?_) (fun h1 => ?_)
      · refine JC_seq ?_
        refine JC_region ?_
        refine JL_step rfl rfl rfl (jo_callv rfl rfl Try.call18 rfl (wakes_j)) fun _ => ?_
        refine JL_pd rfl (det_assign rfl) ?_
        refine JL_nil ?_
        refine JE_seq ?_
        refine JC_ret ?_
        refine JE_seq_ret ?_
        -- stop: out
        refine JE_out (.inl rfl) () (results1 Try.results5 (res_tmp rfl)) rfl (List.Perm.refl _) (fun _ _ => trivial)
      · have h10 : (candL m).length ≤ 10 := by have := of_decide_eq_false h1; omega
        have hL := fun b : MA => Locks_jo m b he
        have hF := Fewest_j m a he h10
        have hDl : (locksR m).length ≤ 34 := by
          rcases fewest he with ⟨_, e, _⟩ | ⟨_, F⟩
          · rw [e]; simp
          · exact F.len
        have hE : (locksE m = 9 ∧ locksR m = []) ∨ locksE m = 0 := by
          rcases fewest he with ⟨e, e2, _⟩ | ⟨e, F⟩
          · exact .inl ⟨e, e2⟩
          · exact .inr e
        generalize locksR m = D at hL hF hDl hE
        generalize locksE m = E at hL hF hE
        refine JC_skip ?_
        refine JE_seq ?_
        refine JC_seq ?_
        refine JC_region ?_
        refine JL_dt rfl (det_loadKA rfl Try.isAgg26 Try.sizeOf26 rfl rfl) ?_
        -- stop: op  1 t26 := (call (Call (value f20) (t25) (26)))   <0>   130
        refine JL_step rfl rfl rfl (jo_call rfl rfl Try.call20 rfl (Machine_j m a (by omega) (by omega) (by omega))) fun x26 => ?_
        -- stop: op  2 t27 := (call (Call (value f32) (t26) (34)))   <1 1>   130
        refine JL_step rfl rfl rfl (jo_call rfl rfl Try.call32 rfl (hL x26)) fun ⟨la, lc⟩ => ?_
        refine JL_pd rfl (det_move rfl) ?_
        refine JL_pd rfl (det_extract rfl rfl) ?_
        refine JL_pd rfl (det_extract rfl rfl) ?_
        refine JL_pd rfl (det_assign rfl) ?_
        refine JL_pd rfl (det_assign rfl) ?_
        refine JL_nil ?_
        refine JE_seq ?_
        refine JC_seq ?_
        refine JC_region ?_
        refine JL_dt rfl (det_loadKA rfl Try.isAgg26 Try.sizeOf26 rfl rfl) ?_
        refine JL_step rfl rfl rfl (jo_callv rfl rfl Try.call22 rfl (fault_jl m a)) fun _ => ?_
        refine JL_pd rfl (det_assign rfl) ?_
        refine JL_nil ?_
        refine JE_seq ?_
        refine JC_seq ?_
        refine JC_region ?_
        refine JL_pd rfl (det_assign rfl) ?_
        refine JL_nil ?_
        refine JE_seq ?_
        refine JC_seq ?_
        refine JC_seq ?_
        refine JC_region ?_
        refine JL_pd rfl (det_move rfl) ?_
        refine JL_pd rfl (det_eql rfl rfl) ?_
        refine JL_nil ?_
        refine JE_seq ?_
        -- stop: cond
        refine JC_cond rfl (fun h2 => ?_) (fun h2 => ?_)
        · refine JC_seq ?_
          refine JC_region ?_
          refine JL_pd rfl (det_assign rfl) ?_
          refine JL_nil ?_
          refine JE_seq ?_
          refine JC_seq ?_
          refine JC_region ?_
          refine JL_dt rfl (det_loadKA rfl Try.isAgg26 Try.sizeOf26 rfl rfl) ?_
          -- stop: op  1 t36 := (call (Call (value f33) (t35) (26)))   <0>   135
          refine JL_step rfl rfl rfl (jo_call rfl rfl Try.call33 rfl (hF)) fun ⟨xa, xc⟩ => ?_
          refine JL_pd rfl (det_move rfl) ?_
          refine JL_pd rfl (det_extract rfl rfl) ?_
          refine JL_pd rfl (det_extract rfl rfl) ?_
          refine JL_pd rfl (det_assign rfl) ?_
          refine JL_pd rfl (det_assign rfl) ?_
          refine JL_nil ?_
          refine JE_seq ?_
          refine JC_seq ?_
          refine JC_region ?_
          refine JL_pd rfl (det_move rfl) ?_
          refine JL_pd rfl (det_not rfl) ?_
          refine JL_nil ?_
          refine JE_seq ?_
          -- stop: cond
          rcases hE with ⟨rfl, rfl⟩ | rfl
          · refine JC_cond rfl (fun h5 => ?_) (fun h5 => ?_)
            · refine JC_region ?_
              refine JL_pd rfl (det_assign rfl) ?_
              refine JL_nil ?_
              refine JE_seq ?_
              refine JC_seq ?_
              refine JC_seq ?_
              refine JC_region ?_
              refine JL_pd rfl (det_move rfl) ?_
              refine JL_pd rfl (det_neq rfl rfl) ?_
              refine JL_nil ?_
              refine JE_seq ?_
              -- stop: cond
              refine JC_cond rfl (fun h6 => ?_) (fun h6 => ?_)
              · refine JC_seq ?_
                refine JC_region ?_
                refine JL_pd rfl (det_move rfl) ?_
                refine JL_pd rfl (det_move rfl) ?_
                refine JL_pd rfl (det_eql rfl rfl) ?_
                refine JL_pd rfl (det_move rfl) ?_
                -- stop: guard 3
                skip
                refine JL_is (d0 := 46) true rfl (by rfl) (fun g1 => ?_)
                refine JL_guard rfl rfl g1 ?_
                refine JL_pd rfl (det_move rfl) ?_
                refine JL_guard rfl rfl g1 ?_
                refine JL_pd rfl (det_len rfl Try.runUnderlying32) ?_
                refine JL_guard rfl rfl g1 ?_
                refine JL_pd rfl (det_eql rfl rfl) ?_
                refine JL_pd rfl (det_pick_t rfl g1 rfl) ?_
                refine JL_pd rfl (det_move rfl) ?_
                refine JL_is (d0 := 51) true rfl (by rfl) (fun g2 => ?_)
                refine JL_guard rfl rfl g2 ?_
                refine JL_step rfl rfl rfl (jo_callv rfl rfl Try.call18 rfl (wakes_j)) fun _ => ?_
                refine JL_pd rfl (det_pick_t rfl g2 rfl) ?_
                refine JL_pd rfl (det_assign rfl) ?_
                refine JL_nil ?_
                refine JE_seq ?_
                refine JC_ret ?_
                refine JE_seq_ret ?_
                -- stop: out
                refine JE_out (.inl rfl) () (results1 Try.results5 (res_tmp rfl)) rfl (List.Perm.refl _) (fun _ _ => trivial)
              · cases h6
            · cases h5
          · skip
            refine JC_cond rfl (fun h5 => ?_) (fun h5 => ?_)
            · cases h5
            · refine JC_skip ?_
              refine JE_seq ?_
              refine JC_seq ?_
              refine JC_seq ?_
              refine JC_region ?_
              refine JL_pd rfl (det_move rfl) ?_
              refine JL_pd rfl (det_neq rfl rfl) ?_
              refine JL_nil ?_
              refine JE_seq ?_
              -- stop: cond
              refine JC_cond rfl (fun h6 => ?_) (fun h6 => ?_)
              · simp [he] at h6
              · refine JC_skip ?_
                refine JE_seq ?_
                refine JC_seq ?_
                refine JC_seq ?_
                refine JC_region ?_
                refine JL_pd rfl (det_move rfl) ?_
                refine JL_pd rfl (det_neq rfl rfl) ?_
                refine JL_pd rfl (det_move rfl) ?_
                -- stop: guard 2
                refine JL_is (d0 := 56) false rfl (by rfl) (fun g3 => ?_)
                refine JL_guard rfl rfl g3 ?_
                refine JL_pd rfl (det_move rfl) ?_
                refine JL_guard rfl rfl g3 ?_
                refine JL_pd rfl (det_len rfl Try.runUnderlying32) ?_
                refine JL_guard rfl rfl g3 ?_
                refine JL_pd rfl (det_move rfl) ?_
                refine JL_guard rfl rfl g3 ?_
                refine JL_pd rfl (det_len rfl Try.runUnderlying24) ?_
                refine JL_guard rfl rfl g3 ?_
                refine JL_pd rfl (det_neq rfl rfl) ?_
                refine JL_pd rfl (det_pick_f rfl g3 rfl) ?_
                refine JL_nil ?_
                refine JE_seq ?_
                -- stop: cond
                refine JC_cond rfl (fun h7 => ?_) (fun h7 => ?_)
                · simp at h7
                · refine JC_skip ?_
                  refine JE_seq ?_
                  refine JC_seq ?_
                  refine JC_seq ?_
                  refine JC_region ?_
                  refine JL_pd rfl (det_assign rfl) ?_
                  refine JL_nil ?_
                  refine JE_seq ?_
                  refine JC_block ?_
                  -- stop: loop
                  refine JC_loopF (γ := Nat) (fun i => i ≤ D.length) (fun i => [(8, I i)]) (fun _ => []) (fun i => D.length - i) 0 (Nat.zero_le _) (stsub_consI rfl rfl stsub_nil) ht_nil ?_
                  rintro i hi K hK
                  dsimp only [List.cons_append, List.nil_append] at hi ⊢
                  refine JC_seq ?_
                  refine JC_seq ?_
                  refine JC_region ?_
                  refine JL_pd rfl (det_move rfl) ?_
                  refine JL_pd rfl (det_move rfl) ?_
                  refine JL_pd rfl (det_len rfl Try.runUnderlying32) ?_
                  refine JL_pd rfl (det_lss rfl rfl) ?_
                  refine JL_nil ?_
                  refine JE_seq ?_
                  -- stop: cond
                  refine JC_if rfl (fun h8 => ?_) (fun h8 => ?_)
                  · have hi2 : i < D.length := by omega
                    refine JC_skip ?_
                    refine JE_seq ?_
                    refine JC_seq ?_
                    refine JC_block ?_
                    refine JC_seq ?_
                    refine JC_draw [] (by kernel_rfl) ?_
                    refine JA_pd (i := 0) rfl (by kernel_rfl) rfl rfl (det_move rfl) ?_
                    refine JA_pd (i := 1) rfl (by kernel_rfl) rfl rfl (det_move rfl) ?_
                    refine JA_dt (i := 2) rfl (by kernel_rfl) (by kernel_rfl) rfl rfl (det_indexAddr rfl rfl (by first | rfl | omega) (by first | assumption | omega | decide) Try.runUnderlying32 Try.sizeOf62) ?_
                    refine JA_pd (i := 3) rfl (by kernel_rfl) rfl rfl (det_fieldAddrE rfl fo_62_0) ?_
                    refine JA_dt (i := 4) rfl (by kernel_rfl) (by kernel_rfl) rfl rfl (det_loadEk rfl (by first | assumption | omega | decide) Try.isAgg3 rfl rfl) ?_
                    refine JA_pd (i := 5) rfl (by kernel_rfl) rfl rfl (det_move rfl) ?_
                    refine JA_pd (i := 6) rfl (by kernel_rfl) rfl rfl (det_move rfl) ?_
                    refine JA_dt (i := 7) rfl (by kernel_rfl) (by kernel_rfl) rfl rfl (det_indexAddr rfl rfl (by first | rfl | omega) (by first | assumption | omega | decide) Try.runUnderlying24 Try.sizeOf63) ?_
                    refine JA_pd (i := 8) rfl (by kernel_rfl) rfl rfl (det_fieldAddrE rfl fo_63_0) ?_
                    refine JA_dt (i := 9) rfl (by kernel_rfl) (by kernel_rfl) rfl rfl (det_loadEk rfl (by first | assumption | omega | decide) Try.isAgg3 rfl rfl) ?_
                    refine JA_pd (i := 10) rfl (by kernel_rfl) rfl rfl (det_neq rfl rfl) ?_
                    refine JA_pd (i := 11) rfl (by kernel_rfl) rfl rfl (det_move rfl) ?_
                    -- stop: guard 11
                    refine JA_is (d0 := 80) false rfl (by simp) (fun g4 => ?_)
                    refine JA_gpd (i := 12) rfl (by kernel_rfl) rfl rfl rfl rfl g4 (det_move rfl) ?_
                    refine JA_gpd (i := 13) rfl (by kernel_rfl) rfl rfl rfl rfl g4 (det_move rfl) ?_
                    refine JA_gdt (i := 14) rfl (by kernel_rfl) (by kernel_rfl) rfl rfl rfl rfl g4 (det_indexAddr rfl rfl (by first | rfl | omega) (by first | assumption | omega | decide) Try.runUnderlying32 Try.sizeOf62) ?_
                    refine JA_gpd (i := 15) rfl (by kernel_rfl) rfl rfl rfl rfl g4 (det_fieldAddrE rfl fo_62_1) ?_
                    refine JA_gdt (i := 16) rfl (by kernel_rfl) (by kernel_rfl) rfl rfl rfl rfl g4 (det_loadEk rfl (by first | assumption | omega | decide) Try.isAgg3 rfl rfl) ?_
                    refine JA_gpd (i := 17) rfl (by kernel_rfl) rfl rfl rfl rfl g4 (det_move rfl) ?_
                    refine JA_gpd (i := 18) rfl (by kernel_rfl) rfl rfl rfl rfl g4 (det_move rfl) ?_
                    refine JA_gdt (i := 19) rfl (by kernel_rfl) (by kernel_rfl) rfl rfl rfl rfl g4 (det_indexAddr rfl rfl (by first | rfl | omega) (by first | assumption | omega | decide) Try.runUnderlying24 Try.sizeOf63) ?_
                    refine JA_gpd (i := 20) rfl (by kernel_rfl) rfl rfl rfl rfl g4 (det_fieldAddrE rfl fo_63_1) ?_
                    refine JA_gdt (i := 21) rfl (by kernel_rfl) (by kernel_rfl) rfl rfl rfl rfl g4 (det_loadEk rfl (by first | assumption | omega | decide) Try.isAgg3 rfl rfl) ?_
                    refine JA_gpd (i := 22) rfl (by kernel_rfl) rfl rfl rfl rfl g4 (det_neq rfl rfl) ?_
                    refine JA_pd (i := 23) rfl (by kernel_rfl) rfl rfl (det_pick_f rfl g4 rfl) ?_
                    refine JA_done (by kernel_rfl) ?_
                    refine JE_seq ?_
                    -- stop: cond
                    refine JC_cond rfl (fun h9 => ?_) (fun h9 => ?_)
                    · simp at h9
                    · refine JC_skip ?_
                      refine JE_block ?_
                      refine JE_seq ?_
                      refine JC_region ?_
                      refine JL_pd rfl (det_move rfl) ?_
                      refine JL_pd rfl (det_add rfl rfl ⟨by omega, by omega⟩) ?_
                      refine JL_pd rfl (det_assign rfl) ?_
                      refine JL_nil ?_
                      -- stop: end
                      refine JE_roundF hK (i + 1) (by omega) (by omega) (stsub_consI rfl (by omega) stsub_nil) ht_nil
                  · refine JC_exit ?_
                    refine JE_seq_exit ?_
                    refine JE_then_exit ?_
                    refine JE_block_here ?_
                    refine JE_seq ?_
                    refine JC_seq ?_
                    refine JC_region ?_
                    refine JL_step rfl rfl rfl (jo_callv rfl rfl Try.call18 rfl (wakes_j)) fun _ => ?_
                    refine JL_pd rfl (det_assign rfl) ?_
                    refine JL_nil ?_
                    refine JE_seq ?_
                    refine JC_ret ?_
                    -- stop: out
                    refine JE_out (.inl rfl) () (results1 Try.results5 (res_tmp rfl)) rfl (List.Perm.refl _) (fun _ _ => trivial)
        · simp [he] at h2
    · skip
      refine JL_is (d0 := 16) false rfl (by exact decide_eq_false he) (fun g2 => ?_)
      refine JL_skip rfl rfl g2 rfl ?_
      refine JL_skip rfl rfl g2 rfl ?_
      refine JL_skip rfl rfl g2 rfl ?_
      refine JL_skip rfl rfl g2 rfl ?_
      refine JL_guard rfl rfl g1 ?_
      refine JL_pd rfl (det_pick_f rfl g2 rfl) ?_
      refine JL_pd rfl (det_pick_f rfl g1 rfl) ?_
      refine JL_nil ?_
      refine JE_seq ?_
      -- stop: cond
      refine JC_cond rfl (fun h1 => ?_) (fun h1 => ?_)
      · cases h1
      · refine JC_skip ?_
        refine JE_seq ?_
        refine JC_seq ?_
        refine JC_region ?_
        refine JL_dt rfl (det_loadKA rfl Try.isAgg26 Try.sizeOf26 rfl rfl) ?_
        -- stop: op  1 t26 := (call (Call (value f20) (t25) (26)))   <0>   130
        refine JL_step rfl rfl rfl (jo_call rfl rfl Try.call20 rfl (Machine_j m a (by omega) (by omega) (by omega))) fun x26 => ?_
        -- stop: op  2 t27 := (call (Call (value f32) (t26) (34)))   <1 1>   130
        refine JL_step rfl rfl rfl (jo_callv rfl rfl Try.call32 rfl (Locks_je m x26 he)) fun _ => ?_
        refine JL_pd rfl (det_move rfl) ?_
        refine JL_pd rfl (det_extract rfl rfl) ?_
        refine JL_pd rfl (det_extract rfl rfl) ?_
        refine JL_pd rfl (det_assign rfl) ?_
        refine JL_pd rfl (det_assign rfl) ?_
        refine JL_nil ?_
        refine JE_seq ?_
        refine JC_seq ?_
        refine JC_region ?_
        refine JL_dt rfl (det_loadKA rfl Try.isAgg26 Try.sizeOf26 rfl rfl) ?_
        refine JL_step rfl rfl rfl (jo_callv rfl rfl Try.call22 rfl (fault_jl m a)) fun _ => ?_
        refine JL_pd rfl (det_assign rfl) ?_
        refine JL_nil ?_
        refine JE_seq ?_
        refine JC_seq ?_
        refine JC_region ?_
        refine JL_pd rfl (det_assign rfl) ?_
        refine JL_nil ?_
        refine JE_seq ?_
        refine JC_seq ?_
        refine JC_seq ?_
        refine JC_region ?_
        refine JL_pd rfl (det_move rfl) ?_
        refine JL_pd rfl (det_eql rfl rfl) ?_
        refine JL_nil ?_
        refine JE_seq ?_
        -- stop: cond
        refine JC_cond rfl (fun h2 => ?_) (fun h2 => ?_)
        · exact absurd (of_decide_eq_true h2) he
        · refine JC_skip ?_
          refine JE_seq ?_
          refine JC_seq ?_
          refine JC_seq ?_
          refine JC_region ?_
          refine JL_pd rfl (det_move rfl) ?_
          refine JL_pd rfl (det_neq rfl rfl) ?_
          refine JL_nil ?_
          refine JE_seq ?_
          -- stop: cond
          refine JC_cond rfl (fun h3 => ?_) (fun h3 => ?_)
          · refine JC_seq ?_
            refine JC_region ?_
            refine JL_pd rfl (det_move rfl) ?_
            refine JL_pd rfl (det_move rfl) ?_
            refine JL_pd rfl (det_eql rfl rfl) ?_
            refine JL_pd rfl (det_move rfl) ?_
            -- stop: guard 3
            skip
            refine JL_is (d0 := 46) true rfl (by simp) (fun g1 => ?_)
            refine JL_guard rfl rfl g1 ?_
            refine JL_pd rfl (det_move rfl) ?_
            refine JL_guard rfl rfl g1 ?_
            refine JL_pd rfl (det_len rfl Try.runUnderlying32) ?_
            refine JL_guard rfl rfl g1 ?_
            refine JL_pd rfl (det_eql rfl rfl) ?_
            refine JL_pd rfl (det_pick_t rfl g1 rfl) ?_
            refine JL_pd rfl (det_move rfl) ?_
            refine JL_is (d0 := 51) true rfl (by simp) (fun g2 => ?_)
            refine JL_guard rfl rfl g2 ?_
            refine JL_step rfl rfl rfl (jo_callv rfl rfl Try.call18 rfl (wakes_j)) fun _ => ?_
            refine JL_pd rfl (det_pick_t rfl g2 rfl) ?_
            refine JL_pd rfl (det_assign rfl) ?_
            refine JL_nil ?_
            refine JE_seq ?_
            refine JC_ret ?_
            refine JE_seq_ret ?_
            -- stop: out
            refine JE_out (.inl rfl) () (results1 Try.results5 (res_tmp rfl)) rfl (List.Perm.refl _) (fun _ _ => trivial)
          · simp [he] at h3
end Go.Proofs.Ytgbfjcgjcnndpaa

/- The statements about cycle: CycleEnds. -/
import Derived.Test.YtgbfjcgjcnndpaaC47
import Derived.Test.YtgbfjcgjcnndpaaC39
set_option linter.unusedSimpArgs false
set_option linter.unusedVariables false
namespace Go.Proofs.Ytgbfjcgjcnndpaa
open Go.RowKit Go.Shelf

set_option maxRecDepth 100000 in
set_option maxHeartbeats 2000000 in
theorem CycleEnds_j (m : Mc) (a : MA) (log : List Int) (sa : Option Addr) (sc : Nat) (lost : Int) : Cv Try.prog 6 [.agg #[I m.states, .slice a.sa m.steps.length a.sc, .slice a.ra m.running.length a.rc, .slice a.ka m.locks.length a.kc], .slice sa log.length sc, I lost] (KAnd (KMc m a) (KSl sa log.length sc encI log)) (.bool true) := by
  refine Cx_of Try.func6 rfl Try.ntmps6 rfl fun w0 M0 => ?_
  refine JC_seq ?_
  refine JC_region ?_
  refine JL_step rfl rfl rfl (jo_box rfl rfl) fun b3 => ?_
  refine JL_pd rfl (det_assign rfl) ?_
  refine JL_nil ?_
  refine JE_seq ?_
  refine JC_seq ?_
  refine JC_seq ?_
  refine JC_region ?_
  refine JL_dt rfl (det_loadKA rfl Try.isAgg26 Try.sizeOf26 rfl rfl) ?_
  refine JL_step rfl rfl rfl (jo_callv rfl rfl Try.call17 rfl (Thin_j m a)) fun _ => ?_
  refine JL_pd rfl (det_not rfl) ?_
  refine JL_pd rfl (det_move rfl) ?_
  -- stop: guard 3
  cases ht : thinB m with
  | false =>
    refine JL_is (d0 := 15) true rfl (by rfl) (fun g1 => ?_)
    refine JL_skip rfl rfl g1 rfl ?_
    refine JL_skip rfl rfl g1 rfl ?_
    refine JL_skip rfl rfl g1 rfl ?_
    refine JL_pd rfl (det_pick_t rfl g1 rfl) ?_
    refine JL_nil ?_
    refine JE_seq ?_
    -- stop: cond
    refine JC_cond rfl (fun h1 => ?_) (fun h1 => ?_)
    · refine JC_seq ?_
      refine JC_region ?_
      refine JL_step rfl rfl rfl (jo_callv rfl rfl Try.call18 rfl (wakes_j)) fun _ => ?_
      refine JL_pd rfl (det_assign rfl) ?_
      refine JL_nil ?_
      refine JE_seq ?_
      refine JC_ret ?_
      refine JE_seq_ret ?_
      -- stop: out
      refine JE_out (.inl rfl) () (results1 Try.results6 (res_tmp rfl)) rfl (List.Perm.refl _) (fun _ _ => trivial)
    · cases h1
  | true =>
    have hth := thin_lens ht
    refine JL_is (d0 := 15) false rfl (by rfl) (fun g1 => ?_)
    refine JL_guard rfl rfl g1 ?_
    refine JL_pd rfl (det_move rfl) ?_
    refine JL_guard rfl rfl g1 ?_
    refine JL_pd rfl (det_len rfl Try.runUnderlying23) ?_
    refine JL_guard rfl rfl g1 ?_
    refine JL_pd rfl (det_gtr rfl rfl) ?_
    refine JL_pd rfl (det_pick_f rfl g1 rfl) ?_
    refine JL_nil ?_
    refine JE_seq ?_
    -- stop: cond
    refine JC_cond rfl (fun h1 => ?_) (fun h1 => ?_)
    · refine JC_seq ?_
      refine JC_region ?_
      refine JL_step rfl rfl rfl (jo_callv rfl rfl Try.call18 rfl (wakes_j)) fun _ => ?_
      refine JL_pd rfl (det_assign rfl) ?_
      refine JL_nil ?_
      refine JE_seq ?_
      refine JC_ret ?_
      refine JE_seq_ret ?_
      -- stop: out
      refine JE_out (.inl rfl) () (results1 Try.results6 (res_tmp rfl)) rfl (List.Perm.refl _) (fun _ _ => trivial)
    · have h25 : log.length ≤ 25 := by have := of_decide_eq_false h1; omega
      refine JC_skip ?_
      refine JE_seq ?_
      refine JC_seq ?_
      refine JC_region ?_
      refine JL_dt rfl (det_loadKA rfl Try.isAgg26 Try.sizeOf26 rfl rfl) ?_
      -- stop: op  1 t23 := (call (Call (value f20) (t22) (26)))   <0>   158
      refine JL_step rfl rfl rfl (jo_call rfl rfl Try.call20 rfl (Machine_j m a (by omega) (by omega) (by omega))) fun x23 => ?_
      refine JL_pd rfl (det_move rfl) ?_
      -- stop: op  3 t25 := (call (Call (value f35) (t24) (23)))   <2 1>   158
      refine JL_step rfl rfl rfl (jo_call rfl rfl Try.call35 rfl (lList_j log sa sc (by omega))) fun ⟨xa, xc⟩ => ?_
      refine JL_pd rfl (det_move rfl) ?_
      -- stop: op  5 t27 := (call (Call (value f34) (t23 t25 t26) (34 23 3)))   <1 3 4 3>   158
      by_cases he : fault m = 0
      · by_cases h20 : 20 < log.length
        · refine JL_step rfl rfl rfl (jo_callv rfl rfl Try.call34 rfl (Ends_jl m x23 lost xa xc log he h20)) fun _ => ?_
          refine JL_pd rfl (det_move rfl) ?_
          refine JL_pd rfl (det_extract rfl rfl) ?_
          refine JL_pd rfl (det_extract rfl rfl) ?_
          refine JL_pd rfl (det_assign rfl) ?_
          refine JL_pd rfl (det_assign rfl) ?_
          refine JL_nil ?_
          refine JE_seq ?_
          refine JC_seq ?_
          refine JC_region ?_
          refine JL_dt rfl (det_loadKA rfl Try.isAgg26 Try.sizeOf26 rfl rfl) ?_
          refine JL_step rfl rfl rfl (jo_callv rfl rfl Try.call22 rfl (fault_jl m a)) fun _ => ?_
          refine JL_pd rfl (det_assign rfl) ?_
          refine JL_nil ?_
          refine JE_seq ?_
          refine JC_seq ?_
          refine JC_seq ?_
          refine JC_region ?_
          refine JL_pd rfl (det_move rfl) ?_
          refine JL_pd rfl (det_eql rfl rfl) ?_
          refine JL_pd rfl (det_move rfl) ?_
          -- stop: guard 2
          refine JL_is (d0 := 34) true rfl (by exact decide_eq_true he) (fun g2 => ?_)
          refine JL_guard rfl rfl g2 ?_
          refine JL_pd rfl (det_move rfl) ?_
          refine JL_guard rfl rfl g2 ?_
          refine JL_pd rfl (det_len rfl Try.runUnderlying23) ?_
          refine JL_guard rfl rfl g2 ?_
          refine JL_pd rfl (det_gtr rfl rfl) ?_
          refine JL_pd rfl (det_pick_t rfl g2 rfl) ?_
          refine JL_nil ?_
          refine JE_seq ?_
          -- stop: cond
          refine JC_cond rfl (fun h2 => ?_) (fun h2 => ?_)
          · refine JC_region ?_
            refine JL_pd rfl (det_assign rfl) ?_
            refine JL_nil ?_
            refine JE_seq ?_
            refine JC_seq ?_
            refine JC_seq ?_
            refine JC_region ?_
            refine JL_pd rfl (det_assign rfl) ?_
            refine JL_nil ?_
            refine JE_seq ?_
            refine JC_block ?_
            -- stop: loop
            have hw3 : (3 : Int) ≠ 0 := by decide
            refine JC_loopF (γ := Nat) (fun i => i = 0) (fun i => [(10, I i)]) (fun _ => []) (fun i => 0) 0 rfl (stsub_consI rfl rfl stsub_nil) ht_nil ?_
            rintro i hi K hK
            subst hi
            dsimp only [List.cons_append, List.nil_append]
            refine JC_seq ?_
            refine JC_seq ?_
            refine JC_region ?_
            refine JL_pd rfl (det_move rfl) ?_
            refine JL_pd rfl (det_move rfl) ?_
            refine JL_pd rfl (det_len rfl Try.runUnderlying23) ?_
            refine JL_pd rfl (det_lss rfl rfl) ?_
            refine JL_pd rfl (det_move rfl) ?_
            -- stop: guard 4
            refine JL_split (d0 := 43) rfl (fun k1 => ?_) (fun k1 => ?_)
            · refine JL_guard rfl rfl k1 ?_
              refine JL_pd rfl (det_move rfl) ?_
              refine JL_guard rfl rfl k1 ?_
              refine JL_pd rfl (det_eql rfl rfl) ?_
              refine JL_pd rfl (det_pick_t rfl k1 rfl) ?_
              refine JL_nil ?_
              refine JE_seq ?_
              -- stop: cond
              refine JC_cond rfl (fun k2 => ?_) (fun k2 => ?_)
              · exact absurd (of_decide_eq_true k2) hw3
              · refine JC_exit ?_
                refine JE_seq_exit ?_
                refine JE_then_exit ?_
                refine JE_block_here ?_
                refine JE_seq ?_
                refine JC_seq ?_
                refine JC_seq ?_
                refine JC_region ?_
                refine JL_pd rfl (det_move rfl) ?_
                refine JL_pd rfl (det_eql rfl rfl) ?_
                refine JL_pd rfl (det_move rfl) ?_
                -- stop: guard 2
                refine JL_is (d0 := 57) false rfl (by exact decide_eq_false hw3) (fun ga => ?_)
                refine JL_skip rfl rfl ga rfl ?_
                refine JL_skip rfl rfl ga rfl ?_
                refine JL_skip rfl rfl ga rfl ?_
                refine JL_pd rfl (det_pick_f rfl ga rfl) ?_
                refine JL_nil ?_
                refine JE_seq ?_
                -- stop: cond
                refine JC_cond rfl (fun hb => ?_) (fun hb => ?_)
                · cases hb
                · refine JC_skip ?_
                  refine JE_seq ?_
                  refine JC_seq ?_
                  refine JC_region ?_
                  refine JL_pd rfl (det_assign rfl) ?_
                  refine JL_nil ?_
                  refine JE_seq ?_
                  refine JC_seq ?_
                  refine JC_seq ?_
                  refine JC_region ?_
                  refine JL_pd rfl (det_move rfl) ?_
                  refine JL_pd rfl (det_eql rfl rfl) ?_
                  refine JL_nil ?_
                  refine JE_seq ?_
                  -- stop: cond
                  refine JC_cond rfl (fun hc => ?_) (fun hc => ?_)
                  · exact absurd (of_decide_eq_true hc) hw3
                  · refine JC_skip ?_
                    refine JE_seq ?_
                    refine JC_seq ?_
                    refine JC_seq ?_
                    refine JC_region ?_
                    refine JL_pd rfl (det_move rfl) ?_
                    refine JL_pd rfl (det_neq rfl rfl) ?_
                    refine JL_nil ?_
                    refine JE_seq ?_
                    -- stop: cond
                    refine JC_cond rfl (fun hd => ?_) (fun hd => ?_)
                    · refine JC_seq ?_
                      refine JC_region ?_
                      refine JL_pd rfl (det_move rfl) ?_
                      refine JL_pd rfl (det_move rfl) ?_
                      refine JL_pd rfl (det_eql rfl rfl) ?_
                      refine JL_pd rfl (det_move rfl) ?_
                      -- stop: guard 3
                      skip
                      refine JL_is (d0 := 77) true rfl (by simp) (fun g1 => ?_)
                      refine JL_guard rfl rfl g1 ?_
                      refine JL_pd rfl (det_move rfl) ?_
                      refine JL_guard rfl rfl g1 ?_
                      refine JL_pd rfl (det_len rfl Try.runUnderlying36) ?_
                      refine JL_guard rfl rfl g1 ?_
                      refine JL_pd rfl (det_eql rfl rfl) ?_
                      refine JL_pd rfl (det_pick_t rfl g1 rfl) ?_
                      refine JL_pd rfl (det_move rfl) ?_
                      refine JL_is (d0 := 82) true rfl (by simp) (fun g2 => ?_)
                      refine JL_guard rfl rfl g2 ?_
                      refine JL_step rfl rfl rfl (jo_callv rfl rfl Try.call18 rfl (wakes_j)) fun _ => ?_
                      refine JL_pd rfl (det_pick_t rfl g2 rfl) ?_
                      refine JL_pd rfl (det_assign rfl) ?_
                      refine JL_nil ?_
                      refine JE_seq ?_
                      refine JC_ret ?_
                      refine JE_seq_ret ?_
                      -- stop: out
                      refine JE_out (.inl rfl) () (results1 Try.results6 (res_tmp rfl)) rfl (List.Perm.refl _) (fun _ _ => trivial)
                    · simp [hw3] at hd
            · refine JL_skip rfl rfl k1 rfl ?_
              refine JL_skip rfl rfl k1 rfl ?_
              refine JL_pd rfl (det_pick_f rfl k1 rfl) ?_
              refine JL_nil ?_
              refine JE_seq ?_
              -- stop: cond
              refine JC_cond rfl (fun k2 => ?_) (fun k2 => ?_)
              · cases k2
              · refine JC_exit ?_
                refine JE_seq_exit ?_
                refine JE_then_exit ?_
                refine JE_block_here ?_
                refine JE_seq ?_
                refine JC_seq ?_
                refine JC_seq ?_
                refine JC_region ?_
                refine JL_pd rfl (det_move rfl) ?_
                refine JL_pd rfl (det_eql rfl rfl) ?_
                refine JL_pd rfl (det_move rfl) ?_
                -- stop: guard 2
                refine JL_is (d0 := 57) false rfl (by exact decide_eq_false hw3) (fun ga => ?_)
                refine JL_skip rfl rfl ga rfl ?_
                refine JL_skip rfl rfl ga rfl ?_
                refine JL_skip rfl rfl ga rfl ?_
                refine JL_pd rfl (det_pick_f rfl ga rfl) ?_
                refine JL_nil ?_
                refine JE_seq ?_
                -- stop: cond
                refine JC_cond rfl (fun hb => ?_) (fun hb => ?_)
                · cases hb
                · refine JC_skip ?_
                  refine JE_seq ?_
                  refine JC_seq ?_
                  refine JC_region ?_
                  refine JL_pd rfl (det_assign rfl) ?_
                  refine JL_nil ?_
                  refine JE_seq ?_
                  refine JC_seq ?_
                  refine JC_seq ?_
                  refine JC_region ?_
                  refine JL_pd rfl (det_move rfl) ?_
                  refine JL_pd rfl (det_eql rfl rfl) ?_
                  refine JL_nil ?_
                  refine JE_seq ?_
                  -- stop: cond
                  refine JC_cond rfl (fun hc => ?_) (fun hc => ?_)
                  · exact absurd (of_decide_eq_true hc) hw3
                  · refine JC_skip ?_
                    refine JE_seq ?_
                    refine JC_seq ?_
                    refine JC_seq ?_
                    refine JC_region ?_
                    refine JL_pd rfl (det_move rfl) ?_
                    refine JL_pd rfl (det_neq rfl rfl) ?_
                    refine JL_nil ?_
                    refine JE_seq ?_
                    -- stop: cond
                    refine JC_cond rfl (fun hd => ?_) (fun hd => ?_)
                    · refine JC_seq ?_
                      refine JC_region ?_
                      refine JL_pd rfl (det_move rfl) ?_
                      refine JL_pd rfl (det_move rfl) ?_
                      refine JL_pd rfl (det_eql rfl rfl) ?_
                      refine JL_pd rfl (det_move rfl) ?_
                      -- stop: guard 3
                      skip
                      refine JL_is (d0 := 77) true rfl (by simp) (fun g1 => ?_)
                      refine JL_guard rfl rfl g1 ?_
                      refine JL_pd rfl (det_move rfl) ?_
                      refine JL_guard rfl rfl g1 ?_
                      refine JL_pd rfl (det_len rfl Try.runUnderlying36) ?_
                      refine JL_guard rfl rfl g1 ?_
                      refine JL_pd rfl (det_eql rfl rfl) ?_
                      refine JL_pd rfl (det_pick_t rfl g1 rfl) ?_
                      refine JL_pd rfl (det_move rfl) ?_
                      refine JL_is (d0 := 82) true rfl (by simp) (fun g2 => ?_)
                      refine JL_guard rfl rfl g2 ?_
                      refine JL_step rfl rfl rfl (jo_callv rfl rfl Try.call18 rfl (wakes_j)) fun _ => ?_
                      refine JL_pd rfl (det_pick_t rfl g2 rfl) ?_
                      refine JL_pd rfl (det_assign rfl) ?_
                      refine JL_nil ?_
                      refine JE_seq ?_
                      refine JC_ret ?_
                      refine JE_seq_ret ?_
                      -- stop: out
                      refine JE_out (.inl rfl) () (results1 Try.results6 (res_tmp rfl)) rfl (List.Perm.refl _) (fun _ _ => trivial)
                    · simp [hw3] at hd
          · exact absurd (of_decide_eq_false h2) (by omega)
        · have V := valid_of he
          cases hr : (log.all (fun n => inI n 0 7) && inI lost 0 5) with
          | false =>
            refine JL_step rfl rfl rfl (jo_callv rfl rfl Try.call34 rfl (Ends_jr m x23 lost xa xc log he (by omega) hr)) fun _ => ?_
            refine JL_pd rfl (det_move rfl) ?_
            refine JL_pd rfl (det_extract rfl rfl) ?_
            refine JL_pd rfl (det_extract rfl rfl) ?_
            refine JL_pd rfl (det_assign rfl) ?_
            refine JL_pd rfl (det_assign rfl) ?_
            refine JL_nil ?_
            refine JE_seq ?_
            refine JC_seq ?_
            refine JC_region ?_
            refine JL_dt rfl (det_loadKA rfl Try.isAgg26 Try.sizeOf26 rfl rfl) ?_
            refine JL_step rfl rfl rfl (jo_callv rfl rfl Try.call22 rfl (fault_jl m a)) fun _ => ?_
            refine JL_pd rfl (det_assign rfl) ?_
            refine JL_nil ?_
            refine JE_seq ?_
            refine JC_seq ?_
            refine JC_seq ?_
            refine JC_region ?_
            refine JL_pd rfl (det_move rfl) ?_
            refine JL_pd rfl (det_eql rfl rfl) ?_
            refine JL_pd rfl (det_move rfl) ?_
            -- stop: guard 2
            refine JL_is (d0 := 34) true rfl (by exact decide_eq_true he) (fun g2 => ?_)
            refine JL_guard rfl rfl g2 ?_
            refine JL_pd rfl (det_move rfl) ?_
            refine JL_guard rfl rfl g2 ?_
            refine JL_pd rfl (det_len rfl Try.runUnderlying23) ?_
            refine JL_guard rfl rfl g2 ?_
            refine JL_pd rfl (det_gtr rfl rfl) ?_
            refine JL_pd rfl (det_pick_t rfl g2 rfl) ?_
            refine JL_nil ?_
            refine JE_seq ?_
            -- stop: cond
            refine JC_cond rfl (fun h2 => ?_) (fun h2 => ?_)
            · exact absurd (of_decide_eq_true h2) (by omega)
            · refine JC_skip ?_
              refine JE_seq ?_
              refine JC_seq ?_
              refine JC_seq ?_
              refine JC_region ?_
              refine JL_pd rfl (det_assign rfl) ?_
              refine JL_nil ?_
              refine JE_seq ?_
              refine JC_block ?_
              -- stop: loop
              refine JC_loopF (γ := Nat × Int) (fun q => q.1 ≤ log.length ∧ (q.2 = 2 ∨ (q.2 = fault m ∧ (log.take q.1).all (fun n => inI n 0 7) = true))) (fun q => [(10, I q.1), (9, I q.2)]) (fun _ => []) (fun q => log.length - q.1) (0, fault m) ⟨Nat.zero_le _, .inr ⟨rfl, by simp⟩⟩ (stsub_consI rfl rfl (stsub_consI rfl rfl stsub_nil)) ht_nil ?_
              rintro ⟨i, w⟩ ⟨hi, hw⟩ K hK
              dsimp only [List.cons_append, List.nil_append] at hi hw ⊢
              have hw2 : (2 : Int) ≠ 0 := by decide
              rcases hw with rfl | ⟨rfl, hall⟩
              · refine JC_seq ?_
                refine JC_seq ?_
                refine JC_region ?_
                refine JL_pd rfl (det_move rfl) ?_
                refine JL_pd rfl (det_move rfl) ?_
                refine JL_pd rfl (det_len rfl Try.runUnderlying23) ?_
                refine JL_pd rfl (det_lss rfl rfl) ?_
                refine JL_pd rfl (det_move rfl) ?_
                -- stop: guard 4
                refine JL_split (d0 := 43) rfl (fun k1 => ?_) (fun k1 => ?_)
                · refine JL_guard rfl rfl k1 ?_
                  refine JL_pd rfl (det_move rfl) ?_
                  refine JL_guard rfl rfl k1 ?_
                  refine JL_pd rfl (det_eql rfl rfl) ?_
                  refine JL_pd rfl (det_pick_t rfl k1 rfl) ?_
                  refine JL_nil ?_
                  refine JE_seq ?_
                  -- stop: cond
                  refine JC_cond rfl (fun k2 => ?_) (fun k2 => ?_)
                  · cases k2
                  · refine JC_exit ?_
                    refine JE_seq_exit ?_
                    refine JE_then_exit ?_
                    refine JE_block_here ?_
                    refine JE_seq ?_
                    refine JC_seq ?_
                    refine JC_seq ?_
                    refine JC_region ?_
                    refine JL_pd rfl (det_move rfl) ?_
                    refine JL_pd rfl (det_eql rfl rfl) ?_
                    refine JL_pd rfl (det_move rfl) ?_
                    -- stop: guard 2
                    refine JL_is (d0 := 57) false rfl (by exact decide_eq_false hw2) (fun ga => ?_)
                    refine JL_skip rfl rfl ga rfl ?_
                    refine JL_skip rfl rfl ga rfl ?_
                    refine JL_skip rfl rfl ga rfl ?_
                    refine JL_pd rfl (det_pick_f rfl ga rfl) ?_
                    refine JL_nil ?_
                    refine JE_seq ?_
                    -- stop: cond
                    refine JC_cond rfl (fun hb => ?_) (fun hb => ?_)
                    · cases hb
                    · refine JC_skip ?_
                      refine JE_seq ?_
                      refine JC_seq ?_
                      refine JC_region ?_
                      refine JL_pd rfl (det_assign rfl) ?_
                      refine JL_nil ?_
                      refine JE_seq ?_
                      refine JC_seq ?_
                      refine JC_seq ?_
                      refine JC_region ?_
                      refine JL_pd rfl (det_move rfl) ?_
                      refine JL_pd rfl (det_eql rfl rfl) ?_
                      refine JL_nil ?_
                      refine JE_seq ?_
                      -- stop: cond
                      refine JC_cond rfl (fun hc => ?_) (fun hc => ?_)
                      · exact absurd (of_decide_eq_true hc) hw2
                      · refine JC_skip ?_
                        refine JE_seq ?_
                        refine JC_seq ?_
                        refine JC_seq ?_
                        refine JC_region ?_
                        refine JL_pd rfl (det_move rfl) ?_
                        refine JL_pd rfl (det_neq rfl rfl) ?_
                        refine JL_nil ?_
                        refine JE_seq ?_
                        -- stop: cond
                        refine JC_cond rfl (fun hd => ?_) (fun hd => ?_)
                        · refine JC_seq ?_
                          refine JC_region ?_
                          refine JL_pd rfl (det_move rfl) ?_
                          refine JL_pd rfl (det_move rfl) ?_
                          refine JL_pd rfl (det_eql rfl rfl) ?_
                          refine JL_pd rfl (det_move rfl) ?_
                          -- stop: guard 3
                          skip
                          refine JL_is (d0 := 77) true rfl (by simp) (fun g1 => ?_)
                          refine JL_guard rfl rfl g1 ?_
                          refine JL_pd rfl (det_move rfl) ?_
                          refine JL_guard rfl rfl g1 ?_
                          refine JL_pd rfl (det_len rfl Try.runUnderlying36) ?_
                          refine JL_guard rfl rfl g1 ?_
                          refine JL_pd rfl (det_eql rfl rfl) ?_
                          refine JL_pd rfl (det_pick_t rfl g1 rfl) ?_
                          refine JL_pd rfl (det_move rfl) ?_
                          refine JL_is (d0 := 82) true rfl (by simp) (fun g2 => ?_)
                          refine JL_guard rfl rfl g2 ?_
                          refine JL_step rfl rfl rfl (jo_callv rfl rfl Try.call18 rfl (wakes_j)) fun _ => ?_
                          refine JL_pd rfl (det_pick_t rfl g2 rfl) ?_
                          refine JL_pd rfl (det_assign rfl) ?_
                          refine JL_nil ?_
                          refine JE_seq ?_
                          refine JC_ret ?_
                          refine JE_seq_ret ?_
                          -- stop: out
                          refine JE_out (.inl rfl) () (results1 Try.results6 (res_tmp rfl)) rfl (List.Perm.refl _) (fun _ _ => trivial)
                        · simp [hw2] at hd
                · refine JL_skip rfl rfl k1 rfl ?_
                  refine JL_skip rfl rfl k1 rfl ?_
                  refine JL_pd rfl (det_pick_f rfl k1 rfl) ?_
                  refine JL_nil ?_
                  refine JE_seq ?_
                  -- stop: cond
                  refine JC_cond rfl (fun k2 => ?_) (fun k2 => ?_)
                  · cases k2
                  · refine JC_exit ?_
                    refine JE_seq_exit ?_
                    refine JE_then_exit ?_
                    refine JE_block_here ?_
                    refine JE_seq ?_
                    refine JC_seq ?_
                    refine JC_seq ?_
                    refine JC_region ?_
                    refine JL_pd rfl (det_move rfl) ?_
                    refine JL_pd rfl (det_eql rfl rfl) ?_
                    refine JL_pd rfl (det_move rfl) ?_
                    -- stop: guard 2
                    refine JL_is (d0 := 57) false rfl (by exact decide_eq_false hw2) (fun ga => ?_)
                    refine JL_skip rfl rfl ga rfl ?_
                    refine JL_skip rfl rfl ga rfl ?_
                    refine JL_skip rfl rfl ga rfl ?_
                    refine JL_pd rfl (det_pick_f rfl ga rfl) ?_
                    refine JL_nil ?_
                    refine JE_seq ?_
                    -- stop: cond
                    refine JC_cond rfl (fun hb => ?_) (fun hb => ?_)
                    · cases hb
                    · refine JC_skip ?_
                      refine JE_seq ?_
                      refine JC_seq ?_
                      refine JC_region ?_
                      refine JL_pd rfl (det_assign rfl) ?_
                      refine JL_nil ?_
                      refine JE_seq ?_
                      refine JC_seq ?_
                      refine JC_seq ?_
                      refine JC_region ?_
                      refine JL_pd rfl (det_move rfl) ?_
                      refine JL_pd rfl (det_eql rfl rfl) ?_
                      refine JL_nil ?_
                      refine JE_seq ?_
                      -- stop: cond
                      refine JC_cond rfl (fun hc => ?_) (fun hc => ?_)
                      · exact absurd (of_decide_eq_true hc) hw2
                      · refine JC_skip ?_
                        refine JE_seq ?_
                        refine JC_seq ?_
                        refine JC_seq ?_
                        refine JC_region ?_
                        refine JL_pd rfl (det_move rfl) ?_
                        refine JL_pd rfl (det_neq rfl rfl) ?_
                        refine JL_nil ?_
                        refine JE_seq ?_
                        -- stop: cond
                        refine JC_cond rfl (fun hd => ?_) (fun hd => ?_)
                        · refine JC_seq ?_
                          refine JC_region ?_
                          refine JL_pd rfl (det_move rfl) ?_
                          refine JL_pd rfl (det_move rfl) ?_
                          refine JL_pd rfl (det_eql rfl rfl) ?_
                          refine JL_pd rfl (det_move rfl) ?_
                          -- stop: guard 3
                          skip
                          refine JL_is (d0 := 77) true rfl (by simp) (fun g1 => ?_)
                          refine JL_guard rfl rfl g1 ?_
                          refine JL_pd rfl (det_move rfl) ?_
                          refine JL_guard rfl rfl g1 ?_
                          refine JL_pd rfl (det_len rfl Try.runUnderlying36) ?_
                          refine JL_guard rfl rfl g1 ?_
                          refine JL_pd rfl (det_eql rfl rfl) ?_
                          refine JL_pd rfl (det_pick_t rfl g1 rfl) ?_
                          refine JL_pd rfl (det_move rfl) ?_
                          refine JL_is (d0 := 82) true rfl (by simp) (fun g2 => ?_)
                          refine JL_guard rfl rfl g2 ?_
                          refine JL_step rfl rfl rfl (jo_callv rfl rfl Try.call18 rfl (wakes_j)) fun _ => ?_
                          refine JL_pd rfl (det_pick_t rfl g2 rfl) ?_
                          refine JL_pd rfl (det_assign rfl) ?_
                          refine JL_nil ?_
                          refine JE_seq ?_
                          refine JC_ret ?_
                          refine JE_seq_ret ?_
                          -- stop: out
                          refine JE_out (.inl rfl) () (results1 Try.results6 (res_tmp rfl)) rfl (List.Perm.refl _) (fun _ _ => trivial)
                        · simp [hw2] at hd
              · skip
                refine JC_seq ?_
                refine JC_seq ?_
                refine JC_region ?_
                refine JL_pd rfl (det_move rfl) ?_
                refine JL_pd rfl (det_move rfl) ?_
                refine JL_pd rfl (det_len rfl Try.runUnderlying23) ?_
                refine JL_pd rfl (det_lss rfl rfl) ?_
                refine JL_pd rfl (det_move rfl) ?_
                -- stop: guard 4
                refine JL_split (d0 := 43) rfl (fun k1 => ?_) (fun k1 => ?_)
                · have hi2 : i < log.length := by have := of_decide_eq_true k1; omega
                  have htk := take_snoc hi2
                  refine JL_guard rfl rfl k1 ?_
                  refine JL_pd rfl (det_move rfl) ?_
                  refine JL_guard rfl rfl k1 ?_
                  refine JL_pd rfl (det_eql rfl rfl) ?_
                  refine JL_pd rfl (det_pick_t rfl k1 rfl) ?_
                  refine JL_nil ?_
                  refine JE_seq ?_
                  -- stop: cond
                  refine JC_cond rfl (fun k2 => ?_) (fun k2 => ?_)
                  · refine JC_skip ?_
                    refine JE_seq ?_
                    refine JC_seq ?_
                    refine JC_block ?_
                    refine JC_seq ?_
                    refine JC_region ?_
                    refine JL_pd rfl (det_move rfl) ?_
                    refine JL_pd rfl (det_move rfl) ?_
                    refine JL_dt rfl (det_indexAddr rfl rfl (by first | rfl | omega) (by first | assumption | omega | decide) Try.runUnderlying23 Try.sizeOf3) ?_
                    refine JL_dt rfl (det_loadE rfl (by first | assumption | omega | decide) Try.isAgg3 rfl rfl) ?_
                    refine JL_step rfl rfl rfl (jo_callv rfl rfl Try.call36 rfl (In_j _ _ _)) fun _ => ?_
                    refine JL_pd rfl (det_not rfl) ?_
                    refine JL_nil ?_
                    refine JE_seq ?_
                    -- stop: cond
                    refine JC_cond rfl (fun k3 => ?_) (fun k3 => ?_)
                    · refine JC_region ?_
                      refine JL_pd rfl (det_assign rfl) ?_
                      refine JL_nil ?_
                      refine JE_block ?_
                      refine JE_seq ?_
                      refine JC_region ?_
                      refine JL_pd rfl (det_move rfl) ?_
                      refine JL_pd rfl (det_add rfl rfl ⟨by omega, by omega⟩) ?_
                      refine JL_pd rfl (det_assign rfl) ?_
                      refine JL_nil ?_
                      -- stop: end
                      refine JE_roundF hK (i + 1, 2) ⟨by simp only; omega, .inl rfl⟩ (by simp only; omega) (stsub_consI rfl (by simp only; omega) (stsub_consI rfl rfl stsub_nil)) ht_nil
                    · refine JC_skip ?_
                      refine JE_block ?_
                      refine JE_seq ?_
                      refine JC_region ?_
                      refine JL_pd rfl (det_move rfl) ?_
                      refine JL_pd rfl (det_add rfl rfl ⟨by omega, by omega⟩) ?_
                      refine JL_pd rfl (det_assign rfl) ?_
                      refine JL_nil ?_
                      -- stop: end
                      have k3' : inI log[i] 0 7 = true := by simpa using k3
                      refine JE_roundF hK (i + 1, fault m) ⟨by simp only; omega, .inr ⟨rfl, by simp only; rw [htk, List.all_append, hall]; simp [k3']⟩⟩ (by simp only; omega) (stsub_consI rfl (by simp only; omega) (stsub_consI rfl rfl stsub_nil)) ht_nil
                  · exact absurd he (of_decide_eq_false k2)
                · obtain rfl : i = log.length := by have := of_decide_eq_false k1; omega
                  rw [List.take_length] at hall
                  have hlo : inI lost 0 5 = false := by rw [hall, Bool.true_and] at hr; exact hr
                  refine JL_skip rfl rfl k1 rfl ?_
                  refine JL_skip rfl rfl k1 rfl ?_
                  refine JL_pd rfl (det_pick_f rfl k1 rfl) ?_
                  refine JL_nil ?_
                  refine JE_seq ?_
                  -- stop: cond
                  refine JC_cond rfl (fun k2 => ?_) (fun k2 => ?_)
                  · cases k2
                  · refine JC_exit ?_
                    refine JE_seq_exit ?_
                    refine JE_then_exit ?_
                    refine JE_block_here ?_
                    refine JE_seq ?_
                    refine JC_seq ?_
                    refine JC_seq ?_
                    refine JC_region ?_
                    refine JL_pd rfl (det_move rfl) ?_
                    refine JL_pd rfl (det_eql rfl rfl) ?_
                    refine JL_pd rfl (det_move rfl) ?_
                    -- stop: guard 2
                    refine JL_is (d0 := 57) true rfl (by exact decide_eq_true he) (fun g3 => ?_)
                    refine JL_guard rfl rfl g3 ?_
                    refine JL_pd rfl (det_move rfl) ?_
                    refine JL_guard rfl rfl g3 ?_
                    refine JL_step rfl rfl rfl (jo_callv rfl rfl Try.call36 rfl (In_j _ _ _)) fun _ => ?_
                    refine JL_guard rfl rfl g3 ?_
                    refine JL_pd rfl (det_not rfl) ?_
                    refine JL_pd rfl (det_pick_t rfl g3 rfl) ?_
                    refine JL_nil ?_
                    refine JE_seq ?_
                    -- stop: cond
                    refine JC_cond rfl (fun k3 => ?_) (fun k3 => ?_)
                    · refine JC_region ?_
                      refine JL_pd rfl (det_assign rfl) ?_
                      refine JL_nil ?_
                      refine JE_seq ?_
                      refine JC_seq ?_
                      refine JC_region ?_
                      refine JL_pd rfl (det_assign rfl) ?_
                      refine JL_nil ?_
                      refine JE_seq ?_
                      refine JC_seq ?_
                      refine JC_seq ?_
                      refine JC_region ?_
                      refine JL_pd rfl (det_move rfl) ?_
                      refine JL_pd rfl (det_eql rfl rfl) ?_
                      refine JL_nil ?_
                      refine JE_seq ?_
                      -- stop: cond
                      refine JC_cond rfl (fun hc => ?_) (fun hc => ?_)
                      · exact absurd (of_decide_eq_true hc) hw2
                      · refine JC_skip ?_
                        refine JE_seq ?_
                        refine JC_seq ?_
                        refine JC_seq ?_
                        refine JC_region ?_
                        refine JL_pd rfl (det_move rfl) ?_
                        refine JL_pd rfl (det_neq rfl rfl) ?_
                        refine JL_nil ?_
                        refine JE_seq ?_
                        -- stop: cond
                        refine JC_cond rfl (fun hd => ?_) (fun hd => ?_)
                        · refine JC_seq ?_
                          refine JC_region ?_
                          refine JL_pd rfl (det_move rfl) ?_
                          refine JL_pd rfl (det_move rfl) ?_
                          refine JL_pd rfl (det_eql rfl rfl) ?_
                          refine JL_pd rfl (det_move rfl) ?_
                          -- stop: guard 3
                          skip
                          refine JL_is (d0 := 77) true rfl (by simp) (fun g1 => ?_)
                          refine JL_guard rfl rfl g1 ?_
                          refine JL_pd rfl (det_move rfl) ?_
                          refine JL_guard rfl rfl g1 ?_
                          refine JL_pd rfl (det_len rfl Try.runUnderlying36) ?_
                          refine JL_guard rfl rfl g1 ?_
                          refine JL_pd rfl (det_eql rfl rfl) ?_
                          refine JL_pd rfl (det_pick_t rfl g1 rfl) ?_
                          refine JL_pd rfl (det_move rfl) ?_
                          refine JL_is (d0 := 82) true rfl (by simp) (fun g2 => ?_)
                          refine JL_guard rfl rfl g2 ?_
                          refine JL_step rfl rfl rfl (jo_callv rfl rfl Try.call18 rfl (wakes_j)) fun _ => ?_
                          refine JL_pd rfl (det_pick_t rfl g2 rfl) ?_
                          refine JL_pd rfl (det_assign rfl) ?_
                          refine JL_nil ?_
                          refine JE_seq ?_
                          refine JC_ret ?_
                          refine JE_seq_ret ?_
                          -- stop: out
                          refine JE_out (.inl rfl) () (results1 Try.results6 (res_tmp rfl)) rfl (List.Perm.refl _) (fun _ _ => trivial)
                        · simp [hw2] at hd
                    · simp [hlo] at k3
          | true =>
            have hr2 : log.all (fun n => inI n 0 7) = true ∧ inI lost 0 5 = true := by simpa using hr
            obtain ⟨hlg, hlo⟩ := hr2
            have hlo2 := of_decide_eq_true hlo
            obtain ⟨lo, rfl⟩ : ∃ lo : Nat, lost = (lo : Int) := ⟨lost.toNat, by omega⟩
            have hlog : ∀ g ∈ log, 0 ≤ g ∧ g ≤ 7 := fun g hg => of_decide_eq_true (List.all_eq_true.1 hlg g hg)
            have hE := Ends_jo m x23 lo xa xc log he (by omega) (by omega) hlog
            have hRE := REnds_j m a log sa sc lo V (by omega) (by omega) hlog
            have hRS := RStands_j (endsW m log lo)
            have hsl : (standsW (endsW m log lo)).length ≤ 24 := standsN_len _ _
            generalize endsW m log lo = EW at hRE hRS hE hsl
            generalize standsW EW = SL at hRS hE hsl
            refine JL_step rfl rfl rfl (jo_call rfl rfl Try.call34 rfl (hE)) fun ⟨la, lc⟩ => ?_
            refine JL_pd rfl (det_move rfl) ?_
            refine JL_pd rfl (det_extract rfl rfl) ?_
            refine JL_pd rfl (det_extract rfl rfl) ?_
            refine JL_pd rfl (det_assign rfl) ?_
            refine JL_pd rfl (det_assign rfl) ?_
            refine JL_nil ?_
            refine JE_seq ?_
            refine JC_seq ?_
            refine JC_region ?_
            refine JL_dt rfl (det_loadKA rfl Try.isAgg26 Try.sizeOf26 rfl rfl) ?_
            refine JL_step rfl rfl rfl (jo_callv rfl rfl Try.call22 rfl (fault_jl m a)) fun _ => ?_
            refine JL_pd rfl (det_assign rfl) ?_
            refine JL_nil ?_
            refine JE_seq ?_
            refine JC_seq ?_
            refine JC_seq ?_
            refine JC_region ?_
            refine JL_pd rfl (det_move rfl) ?_
            refine JL_pd rfl (det_eql rfl rfl) ?_
            refine JL_pd rfl (det_move rfl) ?_
            -- stop: guard 2
            refine JL_is (d0 := 34) true rfl (by exact decide_eq_true he) (fun g2 => ?_)
            refine JL_guard rfl rfl g2 ?_
            refine JL_pd rfl (det_move rfl) ?_
            refine JL_guard rfl rfl g2 ?_
            refine JL_pd rfl (det_len rfl Try.runUnderlying23) ?_
            refine JL_guard rfl rfl g2 ?_
            refine JL_pd rfl (det_gtr rfl rfl) ?_
            refine JL_pd rfl (det_pick_t rfl g2 rfl) ?_
            refine JL_nil ?_
            refine JE_seq ?_
            -- stop: cond
            refine JC_cond rfl (fun h2 => ?_) (fun h2 => ?_)
            · exact absurd (of_decide_eq_true h2) (by omega)
            · refine JC_skip ?_
              refine JE_seq ?_
              refine JC_seq ?_
              refine JC_seq ?_
              refine JC_region ?_
              refine JL_pd rfl (det_assign rfl) ?_
              refine JL_nil ?_
              refine JE_seq ?_
              refine JC_block ?_
              -- stop: loop
              refine JC_loopF (γ := Nat) (fun i => i ≤ log.length) (fun i => [(10, I i)]) (fun _ => []) (fun i => log.length - i) 0 (Nat.zero_le _) (stsub_consI rfl rfl stsub_nil) ht_nil ?_
              rintro i hi K hK
              dsimp only [List.cons_append, List.nil_append] at hi ⊢
              refine JC_seq ?_
              refine JC_seq ?_
              refine JC_region ?_
              refine JL_pd rfl (det_move rfl) ?_
              refine JL_pd rfl (det_move rfl) ?_
              refine JL_pd rfl (det_len rfl Try.runUnderlying23) ?_
              refine JL_pd rfl (det_lss rfl rfl) ?_
              refine JL_pd rfl (det_move rfl) ?_
              -- stop: guard 4
              refine JL_split (d0 := 43) rfl (fun k1 => ?_) (fun k1 => ?_)
              · have hi2 : i < log.length := by have := of_decide_eq_true k1; omega
                have hin := List.all_eq_true.1 hlg _ (List.getElem_mem hi2)
                refine JL_guard rfl rfl k1 ?_
                refine JL_pd rfl (det_move rfl) ?_
                refine JL_guard rfl rfl k1 ?_
                refine JL_pd rfl (det_eql rfl rfl) ?_
                refine JL_pd rfl (det_pick_t rfl k1 rfl) ?_
                refine JL_nil ?_
                refine JE_seq ?_
                -- stop: cond
                refine JC_cond rfl (fun k2 => ?_) (fun k2 => ?_)
                · refine JC_skip ?_
                  refine JE_seq ?_
                  refine JC_seq ?_
                  refine JC_block ?_
                  refine JC_seq ?_
                  refine JC_region ?_
                  refine JL_pd rfl (det_move rfl) ?_
                  refine JL_pd rfl (det_move rfl) ?_
                  refine JL_dt rfl (det_indexAddr rfl rfl (by first | rfl | omega) (by first | assumption | omega | decide) Try.runUnderlying23 Try.sizeOf3) ?_
                  refine JL_dt rfl (det_loadE rfl (by first | assumption | omega | decide) Try.isAgg3 rfl rfl) ?_
                  refine JL_step rfl rfl rfl (jo_callv rfl rfl Try.call36 rfl (In_j _ _ _)) fun _ => ?_
                  refine JL_pd rfl (det_not rfl) ?_
                  refine JL_nil ?_
                  refine JE_seq ?_
                  -- stop: cond
                  refine JC_cond rfl (fun k3 => ?_) (fun k3 => ?_)
                  · simp [hin] at k3
                  · refine JC_skip ?_
                    refine JE_block ?_
                    refine JE_seq ?_
                    refine JC_region ?_
                    refine JL_pd rfl (det_move rfl) ?_
                    refine JL_pd rfl (det_add rfl rfl ⟨by omega, by omega⟩) ?_
                    refine JL_pd rfl (det_assign rfl) ?_
                    refine JL_nil ?_
                    -- stop: end
                    refine JE_roundF hK (i + 1) (by omega) (by omega) (stsub_consI rfl (by omega) stsub_nil) ht_nil
                · exact absurd he (of_decide_eq_false k2)
              · refine JL_skip rfl rfl k1 rfl ?_
                refine JL_skip rfl rfl k1 rfl ?_
                refine JL_pd rfl (det_pick_f rfl k1 rfl) ?_
                refine JL_nil ?_
                refine JE_seq ?_
                -- stop: cond
                refine JC_cond rfl (fun k2 => ?_) (fun k2 => ?_)
                · cases k2
                · refine JC_exit ?_
                  refine JE_seq_exit ?_
                  refine JE_then_exit ?_
                  refine JE_block_here ?_
                  refine JE_seq ?_
                  refine JC_seq ?_
                  refine JC_seq ?_
                  refine JC_region ?_
                  refine JL_pd rfl (det_move rfl) ?_
                  refine JL_pd rfl (det_eql rfl rfl) ?_
                  refine JL_pd rfl (det_move rfl) ?_
                  -- stop: guard 2
                  refine JL_is (d0 := 57) true rfl (by exact decide_eq_true he) (fun g3 => ?_)
                  refine JL_guard rfl rfl g3 ?_
                  refine JL_pd rfl (det_move rfl) ?_
                  refine JL_guard rfl rfl g3 ?_
                  refine JL_step rfl rfl rfl (jo_callv rfl rfl Try.call36 rfl (In_j _ _ _)) fun _ => ?_
                  refine JL_guard rfl rfl g3 ?_
                  refine JL_pd rfl (det_not rfl) ?_
                  refine JL_pd rfl (det_pick_t rfl g3 rfl) ?_
                  refine JL_nil ?_
                  refine JE_seq ?_
                  -- stop: cond
                  refine JC_cond rfl (fun k3 => ?_) (fun k3 => ?_)
                  · simp [hlo] at k3
                  · refine JC_skip ?_
                    refine JE_seq ?_
                    refine JC_seq ?_
                    refine JC_region ?_
                    refine JL_pd rfl (det_assign rfl) ?_
                    refine JL_nil ?_
                    refine JE_seq ?_
                    refine JC_seq ?_
                    refine JC_seq ?_
                    refine JC_region ?_
                    refine JL_pd rfl (det_move rfl) ?_
                    refine JL_pd rfl (det_eql rfl rfl) ?_
                    refine JL_nil ?_
                    refine JE_seq ?_
                    -- stop: cond
                    refine JC_cond rfl (fun k4 => ?_) (fun k4 => ?_)
                    · refine JC_seq ?_
                      refine JC_region ?_
                      refine JL_dt rfl (det_loadKA rfl Try.isAgg26 Try.sizeOf26 rfl rfl) ?_
                      refine JL_pd rfl (det_move rfl) ?_
                      refine JL_pd rfl (det_move rfl) ?_
                      -- stop: op  3 t67 := (call (Call (value f37) (t64 t65 t66) (26 23 3)))   <0 1 2>   173
                      refine JL_step rfl rfl rfl (jo_callv rfl rfl Try.call37 rfl (hRE)) fun _ => ?_
                      -- stop: op  4 t68 := (call (Call (value f24) (t67) (45)))   <3 3>   173
                      refine JL_step rfl rfl rfl (jo_call rfl rfl Try.call24 rfl (hRS)) fun ⟨ya, yc⟩ => ?_
                      refine JL_pd rfl (det_assign rfl) ?_
                      refine JL_nil ?_
                      refine JE_seq ?_
                      refine JC_seq ?_
                      refine JC_region ?_
                      refine JL_pd rfl (det_move rfl) ?_
                      refine JL_pd rfl (det_len rfl Try.runUnderlying41) ?_
                      refine JL_pd rfl (det_eql rfl rfl) ?_
                      refine JL_nil ?_
                      refine JE_seq ?_
                      -- stop: cond
                      by_cases hemp : SL = []
                      · subst hemp
                        refine JC_if rfl (fun k5 => ?_) (fun k5 => ?_)
                        · refine JC_region ?_
                          refine JL_pd rfl (det_assign rfl) ?_
                          refine JL_nil ?_
                          refine JE_seq ?_
                          refine JC_seq ?_
                          refine JC_seq ?_
                          refine JC_region ?_
                          refine JL_pd rfl (det_move rfl) ?_
                          refine JL_pd rfl (det_neq rfl rfl) ?_
                          refine JL_nil ?_
                          refine JE_seq ?_
                          -- stop: cond
                          have hw11 : (11 : Int) ≠ 0 := by decide
                          refine JC_cond rfl (fun hd => ?_) (fun hd => ?_)
                          · refine JC_seq ?_
                            refine JC_region ?_
                            refine JL_pd rfl (det_move rfl) ?_
                            refine JL_pd rfl (det_move rfl) ?_
                            refine JL_pd rfl (det_eql rfl rfl) ?_
                            refine JL_pd rfl (det_move rfl) ?_
                            -- stop: guard 3
                            skip
                            refine JL_is (d0 := 77) true rfl (by simp) (fun g1 => ?_)
                            refine JL_guard rfl rfl g1 ?_
                            refine JL_pd rfl (det_move rfl) ?_
                            refine JL_guard rfl rfl g1 ?_
                            refine JL_pd rfl (det_len rfl Try.runUnderlying36) ?_
                            refine JL_guard rfl rfl g1 ?_
                            refine JL_pd rfl (det_eql rfl rfl) ?_
                            refine JL_pd rfl (det_pick_t rfl g1 rfl) ?_
                            refine JL_pd rfl (det_move rfl) ?_
                            refine JL_is (d0 := 82) true rfl (by simp) (fun g2 => ?_)
                            refine JL_guard rfl rfl g2 ?_
                            refine JL_step rfl rfl rfl (jo_callv rfl rfl Try.call18 rfl (wakes_j)) fun _ => ?_
                            refine JL_pd rfl (det_pick_t rfl g2 rfl) ?_
                            refine JL_pd rfl (det_assign rfl) ?_
                            refine JL_nil ?_
                            refine JE_seq ?_
                            refine JC_ret ?_
                            refine JE_seq_ret ?_
                            -- stop: out
                            refine JE_out (.inl rfl) () (results1 Try.results6 (res_tmp rfl)) rfl (List.Perm.refl _) (fun _ _ => trivial)
                          · simp [hw11] at hd
                        · simp at k5
                      · skip
                        have hl0 : SL.length ≠ 0 := fun e => hemp (List.eq_nil_of_length_eq_zero e)
                        refine JC_if rfl (fun k5 => ?_) (fun k5 => ?_)
                        · omega
                        · refine JC_skip ?_
                          refine JE_seq ?_
                          refine JC_seq ?_
                          refine JC_seq ?_
                          refine JC_region ?_
                          refine JL_pd rfl (det_move rfl) ?_
                          refine JL_pd rfl (det_neq rfl rfl) ?_
                          refine JL_nil ?_
                          refine JE_seq ?_
                          -- stop: cond
                          refine JC_cond rfl (fun k6 => ?_) (fun k6 => ?_)
                          · simp [he] at k6
                          · refine JC_skip ?_
                            refine JE_seq ?_
                            refine JC_seq ?_
                            refine JC_region ?_
                            refine JL_pd rfl (det_move rfl) ?_
                            refine JL_pd rfl (det_eql rfl rfl) ?_
                            refine JL_pd rfl (det_move rfl) ?_
                            -- stop: guard 2
                            have hss := fun la rb lc rc => lstands_j SL SL la rb lc rc (by omega)
                            refine JL_is (d0 := 87) true rfl (by simp [hemp]) (fun g4 => ?_)
                            refine JL_guard rfl rfl g4 ?_
                            refine JL_pd rfl (det_move rfl) ?_
                            refine JL_guard rfl rfl g4 ?_
                            refine JL_pd rfl (det_move rfl) ?_
                            refine JL_guard rfl rfl g4 ?_
                            -- stop: op  5 t90 := (call (Call (value f23) (t88 t89) (36 41)))   <3 4 2 2>   180
                            refine JL_step rfl rfl rfl (jo_callv rfl rfl Try.call23 rfl (hss _ _ _ _)) fun _ => ?_
                            refine JL_pd rfl (det_pick_t rfl g4 rfl) ?_
                            refine JL_pd rfl (det_move rfl) ?_
                            -- stop: guard 7
                            skip
                            refine JL_is (d0 := 92) true rfl (by simp) (fun g1 => ?_)
                            refine JL_guard rfl rfl g1 ?_
                            refine JL_step rfl rfl rfl (jo_callv rfl rfl Try.call18 rfl (wakes_j)) fun _ => ?_
                            refine JL_pd rfl (det_pick_t rfl g1 rfl) ?_
                            refine JL_pd rfl (det_assign rfl) ?_
                            refine JL_nil ?_
                            refine JE_seq ?_
                            refine JC_ret ?_
                            -- stop: out
                            refine JE_out (.inl rfl) () (results1 Try.results6 (res_tmp rfl)) rfl (List.Perm.refl _) (fun _ _ => trivial)
                    · exact absurd he (of_decide_eq_false k4)
      · skip
        refine JL_step rfl rfl rfl (jo_callv rfl rfl Try.call34 rfl (Ends_je m x23 lost xa xc log he)) fun _ => ?_
        refine JL_pd rfl (det_move rfl) ?_
        refine JL_pd rfl (det_extract rfl rfl) ?_
        refine JL_pd rfl (det_extract rfl rfl) ?_
        refine JL_pd rfl (det_assign rfl) ?_
        refine JL_pd rfl (det_assign rfl) ?_
        refine JL_nil ?_
        refine JE_seq ?_
        refine JC_seq ?_
        refine JC_region ?_
        refine JL_dt rfl (det_loadKA rfl Try.isAgg26 Try.sizeOf26 rfl rfl) ?_
        refine JL_step rfl rfl rfl (jo_callv rfl rfl Try.call22 rfl (fault_jl m a)) fun _ => ?_
        refine JL_pd rfl (det_assign rfl) ?_
        refine JL_nil ?_
        refine JE_seq ?_
        refine JC_seq ?_
        refine JC_seq ?_
        refine JC_region ?_
        refine JL_pd rfl (det_move rfl) ?_
        refine JL_pd rfl (det_eql rfl rfl) ?_
        refine JL_pd rfl (det_move rfl) ?_
        -- stop: guard 2
        refine JL_is (d0 := 34) false rfl (by exact decide_eq_false he) (fun g2 => ?_)
        refine JL_skip rfl rfl g2 rfl ?_
        refine JL_skip rfl rfl g2 rfl ?_
        refine JL_skip rfl rfl g2 rfl ?_
        refine JL_pd rfl (det_pick_f rfl g2 rfl) ?_
        refine JL_nil ?_
        refine JE_seq ?_
        -- stop: cond
        refine JC_cond rfl (fun h2 => ?_) (fun h2 => ?_)
        · cases h2
        · refine JC_skip ?_
          refine JE_seq ?_
          refine JC_seq ?_
          refine JC_seq ?_
          refine JC_region ?_
          refine JL_pd rfl (det_assign rfl) ?_
          refine JL_nil ?_
          refine JE_seq ?_
          refine JC_block ?_
          -- stop: loop
          refine JC_loopF (γ := Nat) (fun i => i = 0) (fun i => [(10, I i)]) (fun _ => []) (fun i => 0) 0 rfl (stsub_consI rfl rfl stsub_nil) ht_nil ?_
          rintro i hi K hK
          subst hi
          dsimp only [List.cons_append, List.nil_append]
          refine JC_seq ?_
          refine JC_seq ?_
          refine JC_region ?_
          refine JL_pd rfl (det_move rfl) ?_
          refine JL_pd rfl (det_move rfl) ?_
          refine JL_pd rfl (det_len rfl Try.runUnderlying23) ?_
          refine JL_pd rfl (det_lss rfl rfl) ?_
          refine JL_pd rfl (det_move rfl) ?_
          -- stop: guard 4
          refine JL_split (d0 := 43) rfl (fun k1 => ?_) (fun k1 => ?_)
          · refine JL_guard rfl rfl k1 ?_
            refine JL_pd rfl (det_move rfl) ?_
            refine JL_guard rfl rfl k1 ?_
            refine JL_pd rfl (det_eql rfl rfl) ?_
            refine JL_pd rfl (det_pick_t rfl k1 rfl) ?_
            refine JL_nil ?_
            refine JE_seq ?_
            -- stop: cond
            refine JC_cond rfl (fun k2 => ?_) (fun k2 => ?_)
            · exact absurd (of_decide_eq_true k2) he
            · refine JC_exit ?_
              refine JE_seq_exit ?_
              refine JE_then_exit ?_
              refine JE_block_here ?_
              refine JE_seq ?_
              refine JC_seq ?_
              refine JC_seq ?_
              refine JC_region ?_
              refine JL_pd rfl (det_move rfl) ?_
              refine JL_pd rfl (det_eql rfl rfl) ?_
              refine JL_pd rfl (det_move rfl) ?_
              -- stop: guard 2
              refine JL_is (d0 := 57) false rfl (by exact decide_eq_false he) (fun ga => ?_)
              refine JL_skip rfl rfl ga rfl ?_
              refine JL_skip rfl rfl ga rfl ?_
              refine JL_skip rfl rfl ga rfl ?_
              refine JL_pd rfl (det_pick_f rfl ga rfl) ?_
              refine JL_nil ?_
              refine JE_seq ?_
              -- stop: cond
              refine JC_cond rfl (fun hb => ?_) (fun hb => ?_)
              · cases hb
              · refine JC_skip ?_
                refine JE_seq ?_
                refine JC_seq ?_
                refine JC_region ?_
                refine JL_pd rfl (det_assign rfl) ?_
                refine JL_nil ?_
                refine JE_seq ?_
                refine JC_seq ?_
                refine JC_seq ?_
                refine JC_region ?_
                refine JL_pd rfl (det_move rfl) ?_
                refine JL_pd rfl (det_eql rfl rfl) ?_
                refine JL_nil ?_
                refine JE_seq ?_
                -- stop: cond
                refine JC_cond rfl (fun hc => ?_) (fun hc => ?_)
                · exact absurd (of_decide_eq_true hc) he
                · refine JC_skip ?_
                  refine JE_seq ?_
                  refine JC_seq ?_
                  refine JC_seq ?_
                  refine JC_region ?_
                  refine JL_pd rfl (det_move rfl) ?_
                  refine JL_pd rfl (det_neq rfl rfl) ?_
                  refine JL_nil ?_
                  refine JE_seq ?_
                  -- stop: cond
                  refine JC_cond rfl (fun hd => ?_) (fun hd => ?_)
                  · refine JC_seq ?_
                    refine JC_region ?_
                    refine JL_pd rfl (det_move rfl) ?_
                    refine JL_pd rfl (det_move rfl) ?_
                    refine JL_pd rfl (det_eql rfl rfl) ?_
                    refine JL_pd rfl (det_move rfl) ?_
                    -- stop: guard 3
                    skip
                    refine JL_is (d0 := 77) true rfl (by simp) (fun g1 => ?_)
                    refine JL_guard rfl rfl g1 ?_
                    refine JL_pd rfl (det_move rfl) ?_
                    refine JL_guard rfl rfl g1 ?_
                    refine JL_pd rfl (det_len rfl Try.runUnderlying36) ?_
                    refine JL_guard rfl rfl g1 ?_
                    refine JL_pd rfl (det_eql rfl rfl) ?_
                    refine JL_pd rfl (det_pick_t rfl g1 rfl) ?_
                    refine JL_pd rfl (det_move rfl) ?_
                    refine JL_is (d0 := 82) true rfl (by simp) (fun g2 => ?_)
                    refine JL_guard rfl rfl g2 ?_
                    refine JL_step rfl rfl rfl (jo_callv rfl rfl Try.call18 rfl (wakes_j)) fun _ => ?_
                    refine JL_pd rfl (det_pick_t rfl g2 rfl) ?_
                    refine JL_pd rfl (det_assign rfl) ?_
                    refine JL_nil ?_
                    refine JE_seq ?_
                    refine JC_ret ?_
                    refine JE_seq_ret ?_
                    -- stop: out
                    refine JE_out (.inl rfl) () (results1 Try.results6 (res_tmp rfl)) rfl (List.Perm.refl _) (fun _ _ => trivial)
                  · simp [he] at hd
          · refine JL_skip rfl rfl k1 rfl ?_
            refine JL_skip rfl rfl k1 rfl ?_
            refine JL_pd rfl (det_pick_f rfl k1 rfl) ?_
            refine JL_nil ?_
            refine JE_seq ?_
            -- stop: cond
            refine JC_cond rfl (fun k2 => ?_) (fun k2 => ?_)
            · cases k2
            · refine JC_exit ?_
              refine JE_seq_exit ?_
              refine JE_then_exit ?_
              refine JE_block_here ?_
              refine JE_seq ?_
              refine JC_seq ?_
              refine JC_seq ?_
              refine JC_region ?_
              refine JL_pd rfl (det_move rfl) ?_
              refine JL_pd rfl (det_eql rfl rfl) ?_
              refine JL_pd rfl (det_move rfl) ?_
              -- stop: guard 2
              refine JL_is (d0 := 57) false rfl (by exact decide_eq_false he) (fun ga => ?_)
              refine JL_skip rfl rfl ga rfl ?_
              refine JL_skip rfl rfl ga rfl ?_
              refine JL_skip rfl rfl ga rfl ?_
              refine JL_pd rfl (det_pick_f rfl ga rfl) ?_
              refine JL_nil ?_
              refine JE_seq ?_
              -- stop: cond
              refine JC_cond rfl (fun hb => ?_) (fun hb => ?_)
              · cases hb
              · refine JC_skip ?_
                refine JE_seq ?_
                refine JC_seq ?_
                refine JC_region ?_
                refine JL_pd rfl (det_assign rfl) ?_
                refine JL_nil ?_
                refine JE_seq ?_
                refine JC_seq ?_
                refine JC_seq ?_
                refine JC_region ?_
                refine JL_pd rfl (det_move rfl) ?_
                refine JL_pd rfl (det_eql rfl rfl) ?_
                refine JL_nil ?_
                refine JE_seq ?_
                -- stop: cond
                refine JC_cond rfl (fun hc => ?_) (fun hc => ?_)
                · exact absurd (of_decide_eq_true hc) he
                · refine JC_skip ?_
                  refine JE_seq ?_
                  refine JC_seq ?_
                  refine JC_seq ?_
                  refine JC_region ?_
                  refine JL_pd rfl (det_move rfl) ?_
                  refine JL_pd rfl (det_neq rfl rfl) ?_
                  refine JL_nil ?_
                  refine JE_seq ?_
                  -- stop: cond
                  refine JC_cond rfl (fun hd => ?_) (fun hd => ?_)
                  · refine JC_seq ?_
                    refine JC_region ?_
                    refine JL_pd rfl (det_move rfl) ?_
                    refine JL_pd rfl (det_move rfl) ?_
                    refine JL_pd rfl (det_eql rfl rfl) ?_
                    refine JL_pd rfl (det_move rfl) ?_
                    -- stop: guard 3
                    skip
                    refine JL_is (d0 := 77) true rfl (by simp) (fun g1 => ?_)
                    refine JL_guard rfl rfl g1 ?_
                    refine JL_pd rfl (det_move rfl) ?_
                    refine JL_guard rfl rfl g1 ?_
                    refine JL_pd rfl (det_len rfl Try.runUnderlying36) ?_
                    refine JL_guard rfl rfl g1 ?_
                    refine JL_pd rfl (det_eql rfl rfl) ?_
                    refine JL_pd rfl (det_pick_t rfl g1 rfl) ?_
                    refine JL_pd rfl (det_move rfl) ?_
                    refine JL_is (d0 := 82) true rfl (by simp) (fun g2 => ?_)
                    refine JL_guard rfl rfl g2 ?_
                    refine JL_step rfl rfl rfl (jo_callv rfl rfl Try.call18 rfl (wakes_j)) fun _ => ?_
                    refine JL_pd rfl (det_pick_t rfl g2 rfl) ?_
                    refine JL_pd rfl (det_assign rfl) ?_
                    refine JL_nil ?_
                    refine JE_seq ?_
                    refine JC_ret ?_
                    refine JE_seq_ret ?_
                    -- stop: out
                    refine JE_out (.inl rfl) () (results1 Try.results6 (res_tmp rfl)) rfl (List.Perm.refl _) (fun _ _ => trivial)
                  · simp [he] at hd
end Go.Proofs.Ytgbfjcgjcnndpaa

/- The statements about bill: BillBests. -/
import Derived.Test.YtjbmkdbgobmclaaQE
import Derived.Test.YtjbmkdbgobmclaaQF
set_option linter.unusedSimpArgs false
set_option linter.unusedVariables false
namespace Go.Proofs.Ytjbmkdbgobmclaa
open Go.RowKit Go.Shelf

theorem bR_ok {ls : List Of} {need : Am} {at_ : Int} (h : askE ls need at_ = 0) {b : Bt} (hb : bst at_ ls need = some b) : bR ls need at_ = some b ∧ bErr ls need at_ = 0 := by
  unfold bR bErr
  rw [if_pos h, if_neg (fun e => e h), hb]
  exact ⟨rfl, rfl⟩
theorem bR_none {ls : List Of} {need : Am} {at_ : Int} (h : askE ls need at_ = 0) (hb : bst at_ ls need = none) : bR ls need at_ = none ∧ bErr ls need at_ = 9 := by
  unfold bR bErr
  rw [if_pos h, if_neg (fun e => e h), hb]
  exact ⟨rfl, rfl⟩
theorem bR_bad {ls : List Of} {need : Am} {at_ : Int} (h : askE ls need at_ ≠ 0) : bR ls need at_ = none ∧ bErr ls need at_ = askE ls need at_ := by
  unfold bR bErr
  rw [if_neg h, if_pos h]
  exact ⟨rfl, rfl⟩
set_option maxRecDepth 100000 in
set_option maxHeartbeats 4000000 in
theorem BillBests_j (a : Option Addr) (c : Nat) (ls : List Of) (need : Am) (at_ : Int) (pa : Option Addr) (pc : Nat) (p : List Int) (cost : Int) : Cv Try.prog 10 [.slice a ls.length c, .agg #[I need.g, I need.q, I need.s], I at_, .slice pa p.length pc, I cost] (KAnd (KSl a ls.length c encO ls) (KSl pa p.length pc encI p)) (.bool true) := by
  refine Cx_of Try.func10 rfl Try.ntmps10 rfl fun w0 M0 => ?_
  refine JC_seq ?_
  refine JC_region ?_
  refine JL_step rfl rfl rfl (jo_box rfl rfl) fun b6 => ?_
  refine JL_pd rfl (det_assign rfl) ?_
  refine JL_nil ?_
  refine JE_seq ?_
  refine JC_seq ?_
  refine JC_seq ?_
  refine JC_region ?_
  refine JL_pd rfl (det_move rfl) ?_
  refine JL_pd rfl (det_len rfl Try.runUnderlying50) ?_
  refine JL_pd rfl (det_gtr rfl rfl) ?_
  refine JL_pd rfl (det_move rfl) ?_
  -- stop: guard 3
  by_cases h1 : 9 < ls.length
  · refine JL_is (d0 := 22) true rfl (by exact decide_eq_true (by omega)) (fun g1 => ?_)
    refine JL_skip rfl rfl g1 rfl ?_
    refine JL_skip rfl rfl g1 rfl ?_
    refine JL_skip rfl rfl g1 rfl ?_
    refine JL_pd rfl (det_pick_t rfl g1 rfl) ?_
    refine JL_pd rfl (det_move rfl) ?_
    refine JL_skip rfl rfl rfl rfl ?_
    refine JL_skip rfl rfl rfl rfl ?_
    refine JL_skip rfl rfl rfl rfl ?_
    refine JL_pd rfl (det_pick_t rfl rfl rfl) ?_
    refine JL_nil ?_
    refine JE_seq ?_
    refine JC_condT rfl rfl ?_
    refine JC_seq ?_
    refine JC_region ?_
    refine JL_step rfl rfl rfl (jo_callv rfl rfl Try.call16 rfl (awake_j)) fun _ => ?_
    refine JL_pd rfl (det_assign rfl) ?_
    refine JL_nil ?_
    refine JE_seq ?_
    refine JC_ret ?_
    refine JE_seq_ret ?_
    -- stop: out
    refine JE_out (.inl rfl) () (results1 Try.results10 (res_tmp rfl)) rfl (List.Perm.refl _) (fun _ _ => trivial)
  · skip
    refine JL_is (d0 := 22) false rfl (by exact decide_eq_false (by omega)) (fun g1 => ?_)
    refine JL_guard rfl rfl g1 ?_
    refine JL_pd rfl (det_move rfl) ?_
    refine JL_guard rfl rfl g1 ?_
    refine JL_pd rfl (det_len rfl Try.runUnderlying22) ?_
    refine JL_guard rfl rfl g1 ?_
    refine JL_pd rfl (det_gtr rfl rfl) ?_
    refine JL_pd rfl (det_pick_f rfl g1 rfl) ?_
    refine JL_pd rfl (det_move rfl) ?_
    -- stop: guard 8
    by_cases h2 : 12 < p.length
    · refine JL_is (d0 := 27) true rfl (by exact decide_eq_true (by omega)) (fun g2 => ?_)
      refine JL_skip rfl rfl g2 rfl ?_
      refine JL_skip rfl rfl g2 rfl ?_
      refine JL_skip rfl rfl g2 rfl ?_
      refine JL_pd rfl (det_pick_t rfl g2 rfl) ?_
      refine JL_nil ?_
      refine JE_seq ?_
      refine JC_condT rfl rfl ?_
      refine JC_seq ?_
      refine JC_region ?_
      refine JL_step rfl rfl rfl (jo_callv rfl rfl Try.call16 rfl (awake_j)) fun _ => ?_
      refine JL_pd rfl (det_assign rfl) ?_
      refine JL_nil ?_
      refine JE_seq ?_
      refine JC_ret ?_
      refine JE_seq_ret ?_
      -- stop: out
      refine JE_out (.inl rfl) () (results1 Try.results10 (res_tmp rfl)) rfl (List.Perm.refl _) (fun _ _ => trivial)
    · have hfw := Few_j a c ls (by omega)
      refine JL_is (d0 := 27) false rfl (by exact decide_eq_false (by omega)) (fun g2 => ?_)
      refine JL_guard rfl rfl g2 ?_
      refine JL_pd rfl (det_move rfl) ?_
      refine JL_guard rfl rfl g2 ?_
      refine JL_step rfl rfl rfl (jo_callv rfl rfl Try.call39 rfl (hfw)) fun _ => ?_
      refine JL_guard rfl rfl g2 ?_
      refine JL_pd rfl (det_not rfl) ?_
      refine JL_pd rfl (det_pick_f rfl g2 rfl) ?_
      refine JL_nil ?_
      refine JE_seq ?_
      -- stop: cond
      refine JC_cond rfl (fun h3 => ?_) (fun h3 => ?_)
      · refine JC_seq ?_
        refine JC_region ?_
        refine JL_step rfl rfl rfl (jo_callv rfl rfl Try.call16 rfl (awake_j)) fun _ => ?_
        refine JL_pd rfl (det_assign rfl) ?_
        refine JL_nil ?_
        refine JE_seq ?_
        refine JC_ret ?_
        refine JE_seq_ret ?_
        -- stop: out
        refine JE_out (.inl rfl) () (results1 Try.results10 (res_tmp rfl)) rfl (List.Perm.refl _) (fun _ _ => trivial)
      · have hoj := lOffers_j a c ls (by omega)
        have hlj := lList_j p pa pc (by omega)
        have hck := fun a2 c2 => CheckTariff_j a2 c2 ls
        have hbu := fun a2 c2 => Best_u a2 c2 ls need at_
        have hpp := fun a2 c2 a3 c3 => ProvePurchase_j a2 c2 ls need at_ a3 c3 p cost (by omega)
        have hfj := fault_j a c ls need at_ (by omega)
        have hFt := Fault_j a c ls (by omega)
        refine JC_skip ?_
        refine JE_seq ?_
        refine JC_seq ?_
        refine JC_region ?_
        refine JL_pd rfl (det_move rfl) ?_
        refine JL_step rfl rfl rfl (jo_call rfl rfl Try.call33 rfl (hoj)) fun x34 => ?_
        refine JL_step rfl rfl rfl (jo_callv rfl rfl Try.call40 rfl (hck _ _)) fun _ => ?_
        refine JL_pd rfl (det_assign rfl) ?_
        refine JL_nil ?_
        refine JE_seq ?_
        refine JC_seq ?_
        -- stop: draw
        refine JC_keep b6 noFp ?_
        refine JC_draw [] (by kernel_rfl) ?_
        refine JA_pd (i := 0) rfl (by kernel_rfl) rfl rfl (det_move rfl) ?_
        refine JA_dt (i := 2) rfl (by kernel_rfl) (by kernel_rfl) rfl rfl (det_loadKA rfl Try.isAgg52 Try.sizeOf52 rfl rfl) ?_
        refine JA_pd (i := 4) rfl (by kernel_rfl) rfl rfl (det_move rfl) ?_
        refine JA_one (i := 1) (by kernel_rfl) rfl rfl (jo_call rfl rfl Try.call33 rfl (hoj)) (fun _ => ⟨hsub_drop 0 rfl, fun _ h => h.2⟩) fun x38 => ?_
        refine JA_one (i := 3) (by kernel_rfl) rfl rfl (jo_callv rfl rfl Try.call34 rfl (lAm_j _)) (fun _ => ⟨hsub_refl, fun _ h => h⟩) fun _ => ?_
        refine JA_one (i := 5) (by kernel_rfl) rfl rfl (jo_call rfl rfl Try.call32 rfl (hbu _ _)) (fun _ => ⟨hsub_drop 0 rfl, fun _ h => h.2⟩) fun x42 => ?_
        refine JA_pd (i := 6) rfl (by kernel_rfl) rfl rfl (det_move rfl) ?_
        refine JA_pd (i := 7) rfl (by kernel_rfl) rfl rfl (det_extract rfl rfl) ?_
        refine JA_pd (i := 8) rfl (by kernel_rfl) rfl rfl (det_extract rfl rfl) ?_
        refine JA_pd (i := 9) rfl (by kernel_rfl) rfl rfl (det_extract rfl rfl) ?_
        refine JA_pd (i := 10) rfl (by kernel_rfl) rfl rfl (det_assign rfl) ?_
        refine JA_pd (i := 11) rfl (by kernel_rfl) rfl rfl (det_assign rfl) ?_
        refine JA_pd (i := 12) rfl (by kernel_rfl) rfl rfl (det_assign rfl) ?_
        refine JA_done (by kernel_rfl) ?_
        refine JE_seq ?_
        refine JC_seq ?_
        refine JC_draw [] (by kernel_rfl) ?_
        refine JA_pd (i := 0) rfl (by kernel_rfl) rfl rfl (det_move rfl) ?_
        refine JA_dt (i := 2) rfl (by kernel_rfl) (by kernel_rfl) rfl rfl (det_loadKA rfl Try.isAgg52 Try.sizeOf52 rfl rfl) ?_
        refine JA_pd (i := 4) rfl (by kernel_rfl) rfl rfl (det_move rfl) ?_
        refine JA_pd (i := 5) rfl (by kernel_rfl) rfl rfl (det_move rfl) ?_
        refine JA_pd (i := 7) rfl (by kernel_rfl) rfl rfl (det_move rfl) ?_
        refine JA_one (i := 1) (by kernel_rfl) rfl rfl (jo_call rfl rfl Try.call33 rfl (hoj)) (fun _ => ⟨hsub_drop 0 rfl, fun _ h => h.2⟩) fun x47 => ?_
        refine JA_one (i := 3) (by kernel_rfl) rfl rfl (jo_callv rfl rfl Try.call34 rfl (lAm_j _)) (fun _ => ⟨hsub_refl, fun _ h => h⟩) fun _ => ?_
        refine JA_one (i := 6) (by kernel_rfl) rfl rfl (jo_call rfl rfl Try.call18 rfl (hlj)) (fun _ => ⟨hsub_drop 0 rfl, fun _ h => h.2⟩) fun x52 => ?_
        refine JA_one (i := 8) (by kernel_rfl) rfl rfl (jo_callv rfl rfl Try.call41 rfl (hpp _ _ _ _)) (fun _ => ⟨hsub_refl, fun _ h => h⟩) fun _ => ?_
        refine JA_pd (i := 9) rfl (by kernel_rfl) rfl rfl (det_assign rfl) ?_
        refine JA_done (by kernel_rfl) ?_
        refine JE_seq ?_
        refine JC_seq ?_
        refine JC_region ?_
        refine JL_pd rfl (det_move rfl) ?_
        refine JL_dt rfl (det_loadKA rfl Try.isAgg52 Try.sizeOf52 rfl rfl) ?_
        refine JL_pd rfl (det_move rfl) ?_
        refine JL_step rfl rfl rfl (jo_callv rfl rfl Try.call42 rfl (hfj)) fun _ => ?_
        refine JL_pd rfl (det_assign rfl) ?_
        refine JL_nil ?_
        refine JE_seq ?_
        refine JC_seq ?_
        refine JC_seq ?_
        -- stop: region
        refine JC_cutF (γ := Unit) (fun _ => True) (fun _ => [(87, .bool false)]) (fun _ => []) [] (fun K hK => ?_) (fun _ _ => ?_)
        · refine JC_region ?_
          refine JL_pd rfl (det_move rfl) ?_
          refine JL_pd rfl (det_move rfl) ?_
          refine JL_step rfl rfl rfl (jo_callv rfl rfl Try.call35 rfl (hFt)) fun _ => ?_
          refine JL_pd rfl (det_neq rfl rfl) ?_
          refine JL_pd rfl (det_move rfl) ?_
          -- stop: guard 4
          refine JL_is (d0 := 63) false rfl (by exact congrArg not (decide_eq_true rfl)) (fun g3 => ?_)
          refine JL_guard rfl rfl g3 ?_
          refine JL_pd rfl (det_move rfl) ?_
          refine JL_guard rfl rfl g3 ?_
          refine JL_pd rfl (det_move rfl) ?_
          refine JL_guard rfl rfl g3 ?_
          refine JL_pd rfl (det_eql rfl rfl) ?_
          refine JL_guard rfl rfl g3 ?_
          refine JL_pd rfl (det_move rfl) ?_
          -- stop: guard 8
          by_cases hE : askE ls need at_ = 0
          · obtain ⟨ht, hna, ha1, ha2⟩ := ask_of hE
            obtain ⟨hl6, hV⟩ := tar_of ht
            refine JL_is (d0 := 67) true rfl (by exact decide_eq_true hE) (fun g4 => ?_)
            refine JL_guard rfl rfl g4 ?_
            refine JL_pd rfl (det_move rfl) ?_
            refine JL_guard rfl rfl g4 ?_
            refine JL_pd rfl (det_move rfl) ?_
            refine JL_guard rfl rfl g4 ?_
            refine JL_pd rfl (det_move rfl) ?_
            refine JL_guard rfl rfl g4 ?_
            refine JL_step rfl rfl rfl (jo_callv rfl rfl Try.call43 rfl (Allowed_j a c ls at_ pa pc p (by omega) hV)) fun _ => ?_
            refine JL_guard rfl rfl g3 ?_
            refine JL_pd rfl (det_pick_t rfl g4 rfl) ?_
            refine JL_guard rfl rfl g3 ?_
            refine JL_pd rfl (det_move rfl) ?_
            -- stop: guard 14
            by_cases hal : alP at_ ls p = true
            · skip
              refine JL_is (d0 := 73) true rfl (by exact hal) (fun g5 => ?_)
              refine JL_guard rfl rfl g5 ?_
              refine JL_pd rfl (det_move rfl) ?_
              refine JL_guard rfl rfl g5 ?_
              refine JL_dt rfl (det_loadKA rfl Try.isAgg52 Try.sizeOf52 rfl rfl) ?_
              refine JL_guard rfl rfl g5 ?_
              refine JL_pd rfl (det_move rfl) ?_
              refine JL_guard rfl rfl g5 ?_
              refine JL_step rfl rfl rfl (jo_callv rfl rfl Try.call44 rfl (Covers_j a c ls need at_ pa pc p (by omega) hV hal)) fun _ => ?_
              refine JL_guard rfl rfl g3 ?_
              refine JL_pd rfl (det_pick_t rfl g5 rfl) ?_
              refine JL_guard rfl rfl g3 ?_
              refine JL_pd rfl (det_move rfl) ?_
              -- stop: guard 20
              by_cases hle : leA need (hvP ls p) = true
              · skip
                refine JL_is (d0 := 79) true rfl (by exact hle) (fun g6 => ?_)
                refine JL_guard rfl rfl g6 ?_
                refine JL_pd rfl (det_move rfl) ?_
                refine JL_guard rfl rfl g6 ?_
                refine JL_pd rfl (det_move rfl) ?_
                refine JL_guard rfl rfl g6 ?_
                refine JL_step rfl rfl rfl (jo_callv rfl rfl Try.call45 rfl (Cost_j a c ls at_ pa pc p (by omega) hV hal)) fun _ => ?_
                refine JL_guard rfl rfl g6 ?_
                refine JL_pd rfl (det_move rfl) ?_
                refine JL_guard rfl rfl g6 ?_
                refine JL_pd rfl (det_leq rfl rfl) ?_
                refine JL_guard rfl rfl g3 ?_
                refine JL_pd rfl (det_pick_t rfl g6 rfl) ?_
                refine JL_guard rfl rfl g3 ?_
                refine JL_pd rfl (det_neqB rfl rfl Try.underlying4) ?_
                refine JL_pd rfl (det_pick_f rfl g3 rfl) ?_
                refine JL_nil ?_
                -- stop: end
                exact JE_cutF hK () trivial (stsub_consB rfl (by unfold provB; rw [decide_eq_true hE, hal, hle]; simp) stsub_nil) ht_nil
              · rw [Bool.not_eq_true] at hle
                refine JL_is (d0 := 79) false rfl (by exact hle) (fun g6 => ?_)
                refine JL_skip rfl rfl g6 rfl ?_
                refine JL_skip rfl rfl g6 rfl ?_
                refine JL_skip rfl rfl g6 rfl ?_
                refine JL_skip rfl rfl g6 rfl ?_
                refine JL_skip rfl rfl g6 rfl ?_
                refine JL_guard rfl rfl g3 ?_
                refine JL_pd rfl (det_pick_f rfl g6 rfl) ?_
                refine JL_guard rfl rfl g3 ?_
                refine JL_pd rfl (det_neqB rfl rfl Try.underlying4) ?_
                refine JL_pd rfl (det_pick_f rfl g3 rfl) ?_
                refine JL_nil ?_
                -- stop: end
                exact JE_cutF hK () trivial (stsub_consB rfl (by unfold provB; rw [decide_eq_true hE, hal, hle]; rfl) stsub_nil) ht_nil
            · rw [Bool.not_eq_true] at hal
              refine JL_is (d0 := 73) false rfl (by exact hal) (fun g5 => ?_)
              refine JL_skip rfl rfl g5 rfl ?_
              refine JL_skip rfl rfl g5 rfl ?_
              refine JL_skip rfl rfl g5 rfl ?_
              refine JL_skip rfl rfl g5 rfl ?_
              refine JL_guard rfl rfl g3 ?_
              refine JL_pd rfl (det_pick_f rfl g5 rfl) ?_
              refine JL_guard rfl rfl g3 ?_
              refine JL_pd rfl (det_move rfl) ?_
              refine JL_skip rfl rfl rfl rfl ?_
              refine JL_skip rfl rfl rfl rfl ?_
              refine JL_skip rfl rfl rfl rfl ?_
              refine JL_skip rfl rfl rfl rfl ?_
              refine JL_skip rfl rfl rfl rfl ?_
              refine JL_guard rfl rfl g3 ?_
              refine JL_pd rfl (det_pick_f rfl rfl rfl) ?_
              refine JL_guard rfl rfl g3 ?_
              refine JL_pd rfl (det_neqB rfl rfl Try.underlying4) ?_
              refine JL_pd rfl (det_pick_f rfl g3 rfl) ?_
              refine JL_nil ?_
              -- stop: end
              exact JE_cutF hK () trivial (stsub_consB rfl (by unfold provB; rw [decide_eq_true hE, hal]; rfl) stsub_nil) ht_nil
          · skip
            refine JL_is (d0 := 67) false rfl (by exact decide_eq_false hE) (fun g4 => ?_)
            refine JL_skip rfl rfl g4 rfl ?_
            refine JL_skip rfl rfl g4 rfl ?_
            refine JL_skip rfl rfl g4 rfl ?_
            refine JL_skip rfl rfl g4 rfl ?_
            refine JL_guard rfl rfl g3 ?_
            refine JL_pd rfl (det_pick_f rfl g4 rfl) ?_
            refine JL_guard rfl rfl g3 ?_
            refine JL_pd rfl (det_move rfl) ?_
            refine JL_skip rfl rfl rfl rfl ?_
            refine JL_skip rfl rfl rfl rfl ?_
            refine JL_skip rfl rfl rfl rfl ?_
            refine JL_skip rfl rfl rfl rfl ?_
            refine JL_guard rfl rfl g3 ?_
            refine JL_pd rfl (det_pick_f rfl rfl rfl) ?_
            refine JL_guard rfl rfl g3 ?_
            refine JL_pd rfl (det_move rfl) ?_
            refine JL_skip rfl rfl rfl rfl ?_
            refine JL_skip rfl rfl rfl rfl ?_
            refine JL_skip rfl rfl rfl rfl ?_
            refine JL_skip rfl rfl rfl rfl ?_
            refine JL_skip rfl rfl rfl rfl ?_
            refine JL_guard rfl rfl g3 ?_
            refine JL_pd rfl (det_pick_f rfl rfl rfl) ?_
            refine JL_guard rfl rfl g3 ?_
            refine JL_pd rfl (det_neqB rfl rfl Try.underlying4) ?_
            refine JL_pd rfl (det_pick_f rfl g3 rfl) ?_
            refine JL_nil ?_
            -- stop: end
            exact JE_cutF hK () trivial (stsub_consB rfl (by unfold provB; rw [decide_eq_false hE]; rfl) stsub_nil) ht_nil
        · dsimp only [List.cons_append, List.nil_append]
          -- stop: cond
          refine JC_cond rfl (fun h4 => ?_) (fun h4 => ?_)
          · cases h4
          refine JC_skip ?_
          refine JE_seq ?_
          refine JC_seq ?_
          refine JC_region ?_
          refine JL_pd rfl (det_assign rfl) ?_
          refine JL_nil ?_
          refine JE_seq ?_
          refine JC_seq ?_
          refine JC_seq ?_
          refine JC_region ?_
          refine JL_pd rfl (det_move rfl) ?_
          refine JL_pd rfl (det_eql rfl rfl) ?_
          refine JL_nil ?_
          refine JE_seq ?_
          -- stop: cond
          refine JC_if rfl (fun h5 => ?_) (fun h5 => ?_)
          · obtain ⟨ht, hna, ha1, ha2⟩ := ask_of h5
            obtain ⟨hl6, hV⟩ := tar_of ht
            have hn12 := am12_of hna
            have hrb := (rBest_j a c ls need at_ hl6 hV ls.length none 0 [] (by simp)).mono (pre' := KSl a ls.length c encO ls) (fun w h => ⟨h, KSl_none w⟩) (fun _ _ h => h)
            rw [rb_bst hV hn12] at hrb
            have hno := fun hb => bR_none (need := need) (ls := ls) (at_ := at_) h5 hb
            have hsm := fun b hb => bR_ok (need := need) (ls := ls) (at_ := at_) h5 (b := b) hb
            have hsd := fun b hb => bst_sound at_ ls need b hV hn12 hb
            generalize bst at_ ls need = B at hrb hno hsm hsd
            refine JC_seq ?_
            refine JC_region ?_
            refine JL_pd rfl (det_assign rfl) ?_
            refine JL_nil ?_
            refine JE_seq ?_
            refine JC_seq ?_
            refine JC_region ?_
            refine JL_pd rfl (det_move rfl) ?_
            refine JL_dt rfl (det_loadKA rfl Try.isAgg52 Try.sizeOf52 rfl rfl) ?_
            refine JL_pd rfl (det_move rfl) ?_
            refine JL_step rfl rfl rfl (jo_call rfl rfl Try.call46 rfl (hrb)) fun x94 => ?_
            refine JL_pd rfl (det_move rfl) ?_
            refine JL_pd rfl (det_extract rfl rfl) ?_
            refine JL_pd rfl (det_extract rfl rfl) ?_
            refine JL_pd rfl (det_assign rfl) ?_
            refine JL_pd rfl (det_assign rfl) ?_
            refine JL_nil ?_
            refine JE_seq ?_
            refine JC_seq ?_
            refine JC_region ?_
            refine JL_pd rfl (det_move rfl) ?_
            refine JL_pd rfl (det_not rfl) ?_
            refine JL_nil ?_
            refine JE_seq ?_
            -- stop: cond
            obtain ⟨xa, xn, xc⟩ := x94
            dsimp only
            cases B with
            | none =>
              obtain ⟨e1, e2⟩ := hno rfl
              rw [e1, e2]
              refine JC_cond rfl (fun h6 => ?_) (fun h6 => ?_)
              · refine JC_region ?_
                refine JL_pd rfl (det_assign rfl) ?_
                refine JL_nil ?_
                refine JE_seq ?_
                refine JC_seq ?_
                refine JC_seq ?_
                refine JC_region ?_
                refine JL_pd rfl (det_move rfl) ?_
                refine JL_pd rfl (det_neq rfl rfl) ?_
                refine JL_nil ?_
                refine JE_seq ?_
                -- stop: cond
                refine JC_ifn rfl (fun h7 => ?_) (fun h7 => ?_)
                · refine JC_seq ?_
                  refine JC_region ?_
                  refine JL_pd rfl (det_move rfl) ?_
                  refine JL_pd rfl (det_move rfl) ?_
                  refine JL_pd rfl (det_eql rfl rfl) ?_
                  refine JL_pd rfl (det_move rfl) ?_
                  -- stop: guard 3
                  skip
                  refine JL_is (d0 := 104) true rfl (by first | rfl | exact decide_eq_true rfl) (fun g1 => ?_)
                  refine JL_guard rfl rfl g1 ?_
                  refine JL_pd rfl (det_move rfl) ?_
                  refine JL_guard rfl rfl g1 ?_
                  refine JL_pd rfl (det_len rfl Try.runUnderlying22) ?_
                  refine JL_guard rfl rfl g1 ?_
                  refine JL_pd rfl (det_eql rfl rfl) ?_
                  refine JL_pd rfl (det_pick_t rfl g1 rfl) ?_
                  refine JL_pd rfl (det_move rfl) ?_
                  refine JL_is (d0 := 109) true rfl (by first | rfl | exact decide_eq_true rfl) (fun g2 => ?_)
                  refine JL_guard rfl rfl g2 ?_
                  refine JL_pd rfl (det_move rfl) ?_
                  refine JL_guard rfl rfl g2 ?_
                  refine JL_pd rfl (det_eql rfl rfl) ?_
                  refine JL_pd rfl (det_pick_t rfl g2 rfl) ?_
                  refine JL_pd rfl (det_move rfl) ?_
                  refine JL_is (d0 := 113) true rfl (by first | rfl | exact decide_eq_true rfl) (fun g3 => ?_)
                  refine JL_guard rfl rfl g3 ?_
                  refine JL_step rfl rfl rfl (jo_callv rfl rfl Try.call16 rfl (awake_j)) fun _ => ?_
                  refine JL_pd rfl (det_pick_t rfl g3 rfl) ?_
                  refine JL_pd rfl (det_assign rfl) ?_
                  refine JL_nil ?_
                  refine JE_seq ?_
                  refine JC_ret ?_
                  refine JE_seq_ret ?_
                  -- stop: out
                  refine JE_out (.inl rfl) () (results1 Try.results10 (res_tmp rfl)) rfl (List.Perm.refl _) (fun _ _ => trivial)
                · cases h7
              · cases h6
            | some b =>
              obtain ⟨e1, e2⟩ := hsm b rfl
              obtain ⟨s1, s2, s3⟩ := hsd b rfl
              rw [e1, e2, h5, show bList (some b) = b.list from rfl, show bCost (some b) = b.cost from rfl]
              refine JC_pure (p := xn = b.list.length) (fun w h => (Knows.know (F := KBt (some b) (xa, xn, xc)) w h b rfl).1) fun hxn => ?_
              subst hxn
              refine JC_know (R' := KAnd (KSl xa b.list.length xc encI b.list) _) (fun w h => ⟨(Knows.know (F := KBt (some b) (xa, b.list.length, xc)) w h b rfl).2, h⟩) ?_
              refine JC_cond rfl (fun h6 => ?_) (fun h6 => ?_)
              · cases h6
              refine JC_skip ?_
              refine JE_seq ?_
              refine JC_seq ?_
              refine JC_seq ?_
              refine JC_region ?_
              refine JL_pd rfl (det_move rfl) ?_
              refine JL_pd rfl (det_neq rfl rfl) ?_
              refine JL_nil ?_
              refine JE_seq ?_
              -- stop: cond
              refine JC_ifn rfl (fun h7 => ?_) (fun h7 => ?_)
              · exact absurd rfl h7
              refine JC_skip ?_
              refine JE_seq ?_
              refine JC_seq ?_
              refine JC_region ?_
              refine JL_pd rfl (det_move rfl) ?_
              refine JL_pd rfl (det_eql rfl rfl) ?_
              refine JL_pd rfl (det_move rfl) ?_
              -- stop: guard 2
              skip
              refine JL_is (d0 := 118) true rfl (by first | rfl | exact decide_eq_true rfl) (fun g1 => ?_)
              refine JL_guard rfl rfl g1 ?_
              refine JL_pd rfl (det_move rfl) ?_
              refine JL_guard rfl rfl g1 ?_
              refine JL_pd rfl (det_move rfl) ?_
              refine JL_guard rfl rfl g1 ?_
              -- stop: op  5 t121 := (call (Call (value f25) (t119 t120) (22 22)))   <3 4 2 2>   122
              refine JL_step rfl rfl rfl (jo_callv rfl rfl Try.call25 rfl (ints_j x42.1 x42.2 b.list xa xc b.list)) fun _ => ?_
              refine JL_pd rfl (det_pick_t rfl g1 rfl) ?_
              refine JL_pd rfl (det_move rfl) ?_
              -- stop: guard 7
              skip
              refine JL_is (d0 := 123) true rfl (by first | rfl | exact decide_eq_true rfl) (fun g1 => ?_)
              refine JL_guard rfl rfl g1 ?_
              refine JL_pd rfl (det_move rfl) ?_
              refine JL_guard rfl rfl g1 ?_
              refine JL_pd rfl (det_move rfl) ?_
              refine JL_guard rfl rfl g1 ?_
              refine JL_pd rfl (det_move rfl) ?_
              refine JL_guard rfl rfl g1 ?_
              -- stop: op 11 t127 := (call (Call (value f45) (t125 t126) (50 22)))   <9 10 7 7>   122
              refine JL_step rfl rfl rfl (jo_callv rfl rfl Try.call45 rfl (Cost_j a c ls at_ xa xc b.list (by omega) hV s1)) fun _ => ?_
              refine JL_guard rfl rfl g1 ?_
              refine JL_pd rfl (det_eql rfl rfl) ?_
              refine JL_pd rfl (det_pick_t rfl g1 rfl) ?_
              refine JL_pd rfl (det_move rfl) ?_
              -- stop: guard 14
              have hbc : b.cost = coP ls b.list := congrArg Bt.cost s3
              skip
              refine JL_is (d0 := 130) true rfl (by first | rfl | exact decide_eq_true hbc) (fun g1 => ?_)
              refine JL_guard rfl rfl g1 ?_
              refine JL_step rfl rfl rfl (jo_callv rfl rfl Try.call16 rfl (awake_j)) fun _ => ?_
              refine JL_pd rfl (det_pick_t rfl g1 rfl) ?_
              refine JL_pd rfl (det_assign rfl) ?_
              refine JL_nil ?_
              refine JE_seq ?_
              refine JC_ret ?_
              -- stop: out
              refine JE_out (.inl rfl) () (results1 Try.results10 (res_tmp rfl)) rfl (List.Perm.refl _) (fun _ _ => trivial)
          · obtain ⟨e1, e2⟩ := bR_bad h5
            rw [e1, e2]
            generalize askE ls need at_ = E at h5
            refine JC_skip ?_
            refine JE_seq ?_
            refine JC_seq ?_
            refine JC_seq ?_
            refine JC_region ?_
            refine JL_pd rfl (det_move rfl) ?_
            refine JL_pd rfl (det_neq rfl rfl) ?_
            refine JL_nil ?_
            refine JE_seq ?_
            -- stop: cond
            refine JC_ifn rfl (fun h7 => ?_) (fun h7 => ?_)
            · refine JC_seq ?_
              refine JC_region ?_
              refine JL_pd rfl (det_move rfl) ?_
              refine JL_pd rfl (det_move rfl) ?_
              refine JL_pd rfl (det_eql rfl rfl) ?_
              refine JL_pd rfl (det_move rfl) ?_
              -- stop: guard 3
              skip
              refine JL_is (d0 := 104) true rfl (by first | rfl | exact decide_eq_true rfl) (fun g1 => ?_)
              refine JL_guard rfl rfl g1 ?_
              refine JL_pd rfl (det_move rfl) ?_
              refine JL_guard rfl rfl g1 ?_
              refine JL_pd rfl (det_len rfl Try.runUnderlying22) ?_
              refine JL_guard rfl rfl g1 ?_
              refine JL_pd rfl (det_eql rfl rfl) ?_
              refine JL_pd rfl (det_pick_t rfl g1 rfl) ?_
              refine JL_pd rfl (det_move rfl) ?_
              refine JL_is (d0 := 109) true rfl (by first | rfl | exact decide_eq_true rfl) (fun g2 => ?_)
              refine JL_guard rfl rfl g2 ?_
              refine JL_pd rfl (det_move rfl) ?_
              refine JL_guard rfl rfl g2 ?_
              refine JL_pd rfl (det_eql rfl rfl) ?_
              refine JL_pd rfl (det_pick_t rfl g2 rfl) ?_
              refine JL_pd rfl (det_move rfl) ?_
              refine JL_is (d0 := 113) true rfl (by first | rfl | exact decide_eq_true rfl) (fun g3 => ?_)
              refine JL_guard rfl rfl g3 ?_
              refine JL_step rfl rfl rfl (jo_callv rfl rfl Try.call16 rfl (awake_j)) fun _ => ?_
              refine JL_pd rfl (det_pick_t rfl g3 rfl) ?_
              refine JL_pd rfl (det_assign rfl) ?_
              refine JL_nil ?_
              refine JE_seq ?_
              refine JC_ret ?_
              refine JE_seq_ret ?_
              -- stop: out
              refine JE_out (.inl rfl) () (results1 Try.results10 (res_tmp rfl)) rfl (List.Perm.refl _) (fun _ _ => trivial)
            · exact absurd h7 h5
end Go.Proofs.Ytjbmkdbgobmclaa

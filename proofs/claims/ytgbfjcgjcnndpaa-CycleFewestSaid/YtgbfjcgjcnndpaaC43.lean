/- The statements about cycle: CycleFewest. -/
import Derived.Test.YtgbfjcgjcnndpaaC42
import Derived.Test.YtgbfjcgjcnndpaaJ23
set_option linter.unusedSimpArgs false
set_option linter.unusedVariables false
namespace Go.Proofs.Ytgbfjcgjcnndpaa
open Go.RowKit Go.Shelf

set_option maxRecDepth 100000 in
set_option maxHeartbeats 2000000 in
theorem CycleFewest_j (m : Mc) (a : MA) : Cv Try.prog 8 [.agg #[I m.states, .slice a.sa m.steps.length a.sc, .slice a.ra m.running.length a.rc, .slice a.ka m.locks.length a.kc]] (KMc m a) (.bool true) := by
  cases hr : readyB m with
  | false =>
    refine Cx_of Try.func8 rfl Try.ntmps8 rfl fun w0 M0 => ?_
    refine JC_seq ?_
    refine JC_region ?_
    refine JL_step rfl rfl rfl (jo_box rfl rfl) fun b1 => ?_
    refine JL_pd rfl (det_assign rfl) ?_
    refine JL_nil ?_
    refine JE_seq ?_
    refine JC_seq ?_
    refine JC_seq ?_
    refine JC_region ?_
    refine JL_dt rfl (det_loadKA rfl Try.isAgg26 Try.sizeOf26 rfl rfl) ?_
    refine JL_step rfl rfl rfl (jo_callv rfl rfl Try.call38 rfl (ready_j m a)) fun _ => ?_
    refine JL_pd rfl (det_not rfl) ?_
    refine JL_nil ?_
    refine JE_seq ?_
    -- stop: cond
    refine JC_cond rfl (fun h1 => ?_) (fun h1 => ?_)
    · refine JC_seq ?_
      refine JC_region ?_
      refine JL_step rfl rfl rfl (jo_callv rfl rfl Try.call18 rfl (wakes_j)) fun _ => ?_
      refine JL_pd rfl (det_assign rfl) ?_
      refine JL_nil ?_
      refine JE_seq ?_
      refine JC_ret ?_
      refine JE_seq_ret ?_
      -- stop: out
      refine JE_out (.inl rfl) () (results1 Try.results8 (res_tmp rfl)) rfl (List.Perm.refl _) (fun _ _ => trivial)
    · rw [hr] at h1; cases h1
  | true =>
    have he := ready_v hr
    have V := valid_of he
    have hl1 := V.ns; have hl2 := V.nl; have hl3 := V.nr; have s1 := V.s1; have s2 := V.s2
    have hL := fun b : MA => Locks_jo m b he
    have hS := Serve_j m a m.locks a.ka a.kc V (by omega)
    have hfw := fewest he
    have hasks : ∀ l, needB m l = needB m l := fun _ => rfl
    generalize hSB : serveB m m.locks = SB at hS
    generalize hDd : locksR m = D at hL hfw
    generalize hEd : locksE m = E at hL hfw
    refine Cx_of Try.func8 rfl Try.ntmps8 rfl fun w0 M0 => ?_
    refine JC_seq ?_
    refine JC_region ?_
    refine JL_step rfl rfl rfl (jo_box rfl rfl) fun b1 => ?_
    refine JL_pd rfl (det_assign rfl) ?_
    refine JL_nil ?_
    refine JE_seq ?_
    refine JC_seq ?_
    refine JC_seq ?_
    refine JC_region ?_
    refine JL_dt rfl (det_loadKA rfl Try.isAgg26 Try.sizeOf26 rfl rfl) ?_
    refine JL_step rfl rfl rfl (jo_callv rfl rfl Try.call38 rfl (ready_j m a)) fun _ => ?_
    refine JL_pd rfl (det_not rfl) ?_
    refine JL_nil ?_
    refine JE_seq ?_
    -- stop: cond
    refine JC_cond rfl (fun h1 => ?_) (fun h1 => ?_)
    · rw [hr] at h1; cases h1
    · refine JC_skip ?_
      refine JE_seq ?_
      refine JC_seq ?_
      refine JC_region ?_
      refine JL_dt rfl (det_loadKA rfl Try.isAgg26 Try.sizeOf26 rfl rfl) ?_
      -- stop: op  1 t22 := (call (Call (value f20) (t21) (26)))   <0>   171
      refine JL_step rfl rfl rfl (jo_call rfl rfl Try.call20 rfl (Machine_j m a (by omega) (by omega) (by omega))) fun x22 => ?_
      -- stop: op  2 t23 := (call (Call (value f32) (t22) (34)))   <1 1>   171
      refine JL_step rfl rfl rfl (jo_call rfl rfl Try.call32 rfl (hL x22)) fun ⟨la, lc⟩ => ?_
      refine JL_pd rfl (det_move rfl) ?_
      refine JL_pd rfl (det_extract rfl rfl) ?_
      refine JL_pd rfl (det_extract rfl rfl) ?_
      refine JL_pd rfl (det_assign rfl) ?_
      refine JL_pd rfl (det_assign rfl) ?_
      refine JL_nil ?_
      refine JE_seq ?_
      refine JC_seq ?_
      refine JC_region ?_
      refine JL_dt rfl (det_loadKA rfl Try.isAgg26 Try.sizeOf26 rfl rfl) ?_
      refine JL_pd rfl (det_fieldAddr rfl fo_26_3) ?_
      refine JL_dt rfl (det_loadK rfl Try.isAgg24 rfl) ?_
      -- stop: op  3 t29 := (call (Call (value f42) (t26 t28) (26 24)))   <0 2>   172
      refine JL_step rfl rfl rfl (jo_callv rfl rfl Try.call42 rfl (hS)) fun _ => ?_
      refine JL_pd rfl (det_assign rfl) ?_
      refine JL_nil ?_
      refine JE_seq ?_
      refine JC_seq ?_
      refine JC_seq ?_
      refine JC_region ?_
      refine JL_pd rfl (det_move rfl) ?_
      refine JL_pd rfl (det_neq rfl rfl) ?_
      refine JL_nil ?_
      refine JE_seq ?_
      -- stop: cond
      rcases hfw with ⟨rfl, rfl, hno⟩ | ⟨rfl, F⟩
      · have hsf : SB = false := by rw [← hSB]; exact hno _
        subst hsf
        refine JC_ifn rfl (fun h2 => ?_) (fun h2 => ?_)
        · refine JC_seq ?_
          refine JC_region ?_
          refine JL_pd rfl (det_move rfl) ?_
          refine JL_pd rfl (det_eql rfl rfl) ?_
          refine JL_pd rfl (det_move rfl) ?_
          -- stop: guard 2
          skip
          refine JL_is (d0 := 34) true rfl (by rfl) (fun g1 => ?_)
          refine JL_guard rfl rfl g1 ?_
          refine JL_pd rfl (det_move rfl) ?_
          refine JL_guard rfl rfl g1 ?_
          refine JL_pd rfl (det_not rfl) ?_
          refine JL_pd rfl (det_pick_t rfl g1 rfl) ?_
          refine JL_pd rfl (det_move rfl) ?_
          refine JL_is (d0 := 38) true rfl (by rfl) (fun g2 => ?_)
          refine JL_guard rfl rfl g2 ?_
          refine JL_step rfl rfl rfl (jo_callv rfl rfl Try.call18 rfl (wakes_j)) fun _ => ?_
          refine JL_pd rfl (det_pick_t rfl g2 rfl) ?_
          refine JL_pd rfl (det_assign rfl) ?_
          refine JL_nil ?_
          refine JE_seq ?_
          refine JC_ret ?_
          refine JE_seq_ret ?_
          -- stop: out
          refine JE_out (.inl rfl) () (results1 Try.results8 (res_tmp rfl)) rfl (List.Perm.refl _) (fun _ _ => trivial)
        · cases h2
      · have hDl := F.len
        refine JC_ifn rfl (fun h2 => ?_) (fun h2 => ?_)
        · exact absurd rfl h2
        · refine JC_skip ?_
          refine JE_seq ?_
          refine JC_seq ?_
          refine JC_seq ?_
          refine JC_region ?_
          refine JL_pd rfl (det_move rfl) ?_
          refine JL_pd rfl (det_len rfl Try.runUnderlying32) ?_
          refine JL_pd rfl (det_gtr rfl rfl) ?_
          refine JL_nil ?_
          refine JE_seq ?_
          -- stop: cond
          refine JC_if rfl (fun h3 => ?_) (fun h3 => ?_)
          · omega
          · refine JC_skip ?_
            refine JE_seq ?_
            refine JC_seq ?_
            refine JC_region ?_
            refine JL_dt rfl (det_loadKA rfl Try.isAgg26 Try.sizeOf26 rfl rfl) ?_
            refine JL_step rfl rfl rfl (jo_alloc0 Try.zeroValue26 rfl) fun b6 => ?_
            refine JL_step0 rfl rfl (jo_store rfl rfl rfl (by first | (simp only [splice_norm]; done) | (simp only [splice_norm]; rfl) | rfl) Try.sizeOf26 rfl rfl) fun _ => ?_
            refine JL_nil ?_
            refine JE_seq ?_
            refine JC_seq ?_
            refine JC_region ?_
            refine JL_pd rfl (det_fieldAddr rfl fo_26_3) ?_
            refine JL_step0 rfl rfl (jo_store rfl rfl rfl (by first | (simp only [splice_norm]; done) | (simp only [splice_norm]; rfl) | rfl) Try.sizeOf24 rfl rfl) fun _ => ?_
            refine JL_nil ?_
            refine JE_seq ?_
            refine JC_seq ?_
            refine JC_seq ?_
            refine JC_region ?_
            refine JL_pd rfl (det_assign rfl) ?_
            refine JL_nil ?_
            refine JE_seq ?_
            refine JC_block ?_
            -- stop: loop
            have hgd : ∀ i (h : i < D.length), SB = true → D[i] ∈ m.locks := fun i h hs => F.need _ (List.getElem_mem h) _ (by rw [hSB, hs])
            refine JC_keep b1 noFp ?_
            refine JC_nil 63 2 ?_
            refine JC_loopF (γ := Nat × Value) (fun q => q.1 ≤ D.length) (fun q => [(7, I q.1)]) (fun q => [bx b6 [I m.states, .slice a.sa m.steps.length a.sc, .slice a.ra m.running.length a.rc, q.2], ow q.2 63 2 (D.take q.1).length ((D.take q.1).flatMap encLk)]) (fun q => D.length - q.1) (0, .slice none 0 0) (Nat.zero_le _) (stsub_consI rfl rfl stsub_nil) (ht_bx rfl (ht_ow rfl rfl ht_nil)) ?_
            rintro ⟨i, v⟩ hi K hK
            dsimp only [List.cons_append, List.nil_append] at hi ⊢
            have hln : (D.take i).length = i := by rw [List.length_take]; omega
            refine JC_seq ?_
            refine JC_seq ?_
            refine JC_region ?_
            refine JL_pd rfl (det_move rfl) ?_
            refine JL_pd rfl (det_move rfl) ?_
            refine JL_pd rfl (det_len rfl Try.runUnderlying32) ?_
            refine JL_pd rfl (det_lss rfl rfl) ?_
            refine JL_nil ?_
            refine JE_seq ?_
            -- stop: cond
            refine JC_if rfl (fun h4 => ?_) (fun h4 => ?_)
            · have hi2 : i < D.length := by omega
              have hgi := hgd i hi2
              refine JC_skip ?_
              refine JE_seq ?_
              refine JC_seq ?_
              refine JC_block ?_
              refine JC_seq ?_
              refine JC_draw [14, 16] (by kernel_rfl) ?_
              refine JA_pd (i := 0) rfl (by kernel_rfl) rfl rfl (det_fieldAddr rfl fo_26_3) ?_
              refine JA_dt (i := 1) rfl (by kernel_rfl) (by kernel_rfl) rfl rfl (det_loadK rfl Try.isAgg24 rfl) ?_
              refine JA_pd (i := 2) rfl (by kernel_rfl) rfl rfl (det_move rfl) ?_
              refine JA_pd (i := 3) rfl (by kernel_rfl) rfl rfl (det_move rfl) ?_
              refine JA_dt (i := 4) rfl (by kernel_rfl) (by kernel_rfl) rfl rfl (det_indexAddr rfl rfl (by first | rfl | omega) (by first | assumption | omega | decide) Try.runUnderlying32 Try.sizeOf62) ?_
              refine JA_pd (i := 5) rfl (by kernel_rfl) rfl rfl (det_fieldAddrE rfl fo_62_0) ?_
              refine JA_dt (i := 6) rfl (by kernel_rfl) (by kernel_rfl) rfl rfl (det_loadEk rfl (by first | assumption | omega | decide) Try.isAgg3 rfl rfl) ?_
              refine JA_pd (i := 7) rfl (by kernel_rfl) rfl rfl (det_move rfl) ?_
              refine JA_pd (i := 8) rfl (by kernel_rfl) rfl rfl (det_move rfl) ?_
              refine JA_dt (i := 9) rfl (by kernel_rfl) (by kernel_rfl) rfl rfl (det_indexAddr rfl rfl (by first | rfl | omega) (by first | assumption | omega | decide) Try.runUnderlying32 Try.sizeOf62) ?_
              refine JA_pd (i := 10) rfl (by kernel_rfl) rfl rfl (det_fieldAddrE rfl fo_62_1) ?_
              refine JA_dt (i := 11) rfl (by kernel_rfl) (by kernel_rfl) rfl rfl (det_loadEk rfl (by first | assumption | omega | decide) Try.isAgg3 rfl rfl) ?_
              refine JA_pd (i := 12) rfl (by kernel_rfl) rfl rfl (det_build rfl (bld_63_0_1 _ _)) ?_
              refine JA_one (i := 13) (by kernel_rfl) rfl rfl (jo_buildSlice rfl (bsl_24_1_0 _ _)) (fun _ => ⟨hsub_drop 1 rfl, fun _ h => h⟩) fun b65 => ?_
              refine JA_tail (i := 14) (by kernel_rfl) rfl rfl rfl rfl (jo_append el_24 rfl rfl rfl rfl (by omega)) fun b66 => ?_
              refine JT_pd (i := 15) rfl (by kernel_rfl) rfl rfl (det_fieldAddr rfl fo_26_3) ?_
              refine JT_one (i := 16) (by kernel_rfl) rfl rfl (jo_store rfl rfl rfl (by first | (simp only [splice_norm]; done) | (simp only [splice_norm]; rfl) | rfl) Try.sizeOf24 rfl rfl) fun _ => ?_
              refine JT_done (by kernel_rfl) ?_
              refine JE_seq ?_
              refine JC_seq ?_
              refine JC_region ?_
              refine JL_pd rfl (det_assign rfl) ?_
              refine JL_nil ?_
              refine JE_seq ?_
              refine JC_seq ?_
              refine JC_seq ?_
              refine JC_region ?_
              refine JL_pd rfl (det_assign rfl) ?_
              refine JL_nil ?_
              refine JE_seq ?_
              refine JC_block ?_
              -- stop: loop
              have hln1 : (D.take (i + 1)).length = i + 1 := by rw [List.length_take]; omega
              refine JC_loopF (γ := Nat) (fun j => j ≤ m.locks.length) (fun j => [(9, I j), (8, .bool (decide (D[i] ∈ m.locks.take j)))]) (fun j => [bx b6 [I m.states, .slice a.sa m.steps.length a.sc, .slice a.ra m.running.length a.rc, .slice (some ⟨b66.1, 0, none⟩) (i + 1) b66.2], ow (.slice (some ⟨b66.1, 0, none⟩) (i + 1) b66.2) 63 2 (i + 1) ((D.take (i + 1)).flatMap encLk)]) (fun j => m.locks.length - j) 0 (Nat.zero_le _) (stsub_consI rfl rfl (stsub_consB rfl (by simp) stsub_nil)) (ht_bx (by simp [hln]) (ht_owS (v := .slice (some ⟨b66.1, 0, none⟩) ((D.take i).length + 1) b66.2) (by rw [hln]) (by rw [hln]) (snoc_flat encLk hi2) ht_nil)) ?_
              rintro j hj K2 hK2
              dsimp only [List.cons_append, List.nil_append] at hj ⊢
              refine JC_seq ?_
              refine JC_seq ?_
              refine JC_region ?_
              refine JL_pd rfl (det_move rfl) ?_
              refine JL_pd rfl (det_fieldAddr rfl fo_26_3) ?_
              refine JL_dt rfl (det_loadK rfl Try.isAgg24 rfl) ?_
              refine JL_pd rfl (det_len rfl Try.runUnderlying24) ?_
              refine JL_pd rfl (det_lss rfl rfl) ?_
              refine JL_nil ?_
              refine JE_seq ?_
              -- stop: cond
              refine JC_if rfl (fun h5 => ?_) (fun h5 => ?_)
              · have hj2 : j < m.locks.length := by omega
                have hsn : decide (D[i] ∈ m.locks.take (j + 1)) = (decide (D[i] ∈ m.locks.take j) || decide (m.locks[j] = D[i])) := by
                  rw [take_snoc hj2, Bool.eq_iff_iff, Bool.or_eq_true, decide_eq_true_eq, decide_eq_true_eq, decide_eq_true_eq, List.mem_append, List.mem_singleton]
                  exact or_congr Iff.rfl ⟨Eq.symm, Eq.symm⟩
                have hcell : ((((D.take (i + 1)).flatMap encLk).drop (i * 2)).take 2) = [I D[i].sg, I D[i].at_] := by
                  rw [flat_rec encLk (D.take (i + 1)) i (by omega), List.getElem_take]
                  rfl
                refine JC_skip ?_
                refine JE_seq ?_
                refine JC_seq ?_
                refine JC_block ?_
                refine JC_draw [] (by kernel_rfl) ?_
                refine JA_pd (i := 0) rfl (by kernel_rfl) rfl rfl (det_move rfl) ?_
                refine JA_pd (i := 1) rfl (by kernel_rfl) rfl rfl (det_move rfl) ?_
                -- stop: guard 1
                refine JA_split (d0 := 76) rfl (fun k1 => ?_) (fun k1 => ?_)
                · rw [k1, Bool.true_or] at hsn
                  refine JA_skip (i := 2) rfl (by kernel_rfl) rfl rfl rfl rfl k1 ?_
                  refine JA_skip (i := 3) rfl (by kernel_rfl) rfl rfl rfl rfl k1 ?_
                  refine JA_skip (i := 4) rfl (by kernel_rfl) rfl rfl rfl rfl k1 ?_
                  refine JA_skip (i := 5) rfl (by kernel_rfl) rfl rfl rfl rfl k1 ?_
                  refine JA_skip (i := 6) rfl (by kernel_rfl) rfl rfl rfl rfl k1 ?_
                  refine JA_skip (i := 7) rfl (by kernel_rfl) rfl rfl rfl rfl k1 ?_
                  refine JA_skip (i := 8) rfl (by kernel_rfl) rfl rfl rfl rfl k1 ?_
                  refine JA_skip (i := 9) rfl (by kernel_rfl) rfl rfl rfl rfl k1 ?_
                  refine JA_skip (i := 10) rfl (by kernel_rfl) rfl rfl rfl rfl k1 ?_
                  refine JA_skip (i := 11) rfl (by kernel_rfl) rfl rfl rfl rfl k1 ?_
                  refine JA_skip (i := 12) rfl (by kernel_rfl) rfl rfl rfl rfl k1 ?_
                  refine JA_pd (i := 13) rfl (by kernel_rfl) rfl rfl (det_pick_t rfl k1 rfl) ?_
                  refine JA_pd (i := 14) rfl (by kernel_rfl) rfl rfl (det_assign rfl) ?_
                  refine JA_done (by kernel_rfl) ?_
                  refine JE_block ?_
                  refine JE_seq ?_
                  refine JC_region ?_
                  refine JL_pd rfl (det_move rfl) ?_
                  refine JL_pd rfl (det_add rfl rfl ⟨by omega, by omega⟩) ?_
                  refine JL_pd rfl (det_assign rfl) ?_
                  refine JL_nil ?_
                  -- stop: end
                  refine JE_roundF hK2 (j + 1) (by omega) (by omega) (stsub_consI rfl (by omega) (stsub_consB rfl hsn.symm stsub_nil)) (ht_cons (ht_cons ht_nil))
                · rw [k1, Bool.false_or] at hsn
                  refine JA_gpd (i := 2) rfl (by kernel_rfl) rfl rfl rfl rfl k1 (det_fieldAddr rfl fo_26_3) ?_
                  refine JA_gdt (i := 3) rfl (by kernel_rfl) (by kernel_rfl) rfl rfl rfl rfl k1 (det_loadK rfl Try.isAgg24 rfl) ?_
                  refine JA_gpd (i := 4) rfl (by kernel_rfl) rfl rfl rfl rfl k1 (det_move rfl) ?_
                  refine JA_gdt (i := 5) rfl (by kernel_rfl) (by kernel_rfl) rfl rfl rfl rfl k1 (det_indexAddr rfl rfl (by first | rfl | omega) (by first | assumption | omega | decide) Try.runUnderlying24 Try.sizeOf63) ?_
                  refine JA_gdt (i := 6) rfl (by kernel_rfl) (by kernel_rfl) rfl rfl rfl rfl k1 (det_loadEA rfl (by first | assumption | omega | decide) Try.isAgg63 Try.sizeOf63 rfl rfl rfl) ?_
                  refine JA_gpd (i := 7) rfl (by kernel_rfl) rfl rfl rfl rfl k1 (det_fieldAddr rfl fo_26_3) ?_
                  refine JA_gdt (i := 8) rfl (by kernel_rfl) (by kernel_rfl) rfl rfl rfl rfl k1 (det_loadK rfl Try.isAgg24 rfl) ?_
                  refine JA_gpd (i := 9) rfl (by kernel_rfl) rfl rfl rfl rfl k1 (det_move rfl) ?_
                  refine JA_gpd (i := 10) rfl (by kernel_rfl) rfl rfl rfl rfl k1 (det_indexOwn (i := i) rfl rfl rfl (by omega) Try.runUnderlying24 Try.sizeOf63) ?_
                  refine JA_gdt (i := 11) rfl (by kernel_rfl) (by kernel_rfl) rfl rfl rfl rfl k1 (det_loadOA rfl Try.isAgg63 Try.sizeOf63 hcell rfl) ?_
                  refine JA_gpd (i := 12) rfl (by kernel_rfl) rfl rfl rfl rfl k1 (det_eqlA rfl rfl egt_63 (eqa_63 _ _ _ _)) ?_
                  refine JA_pd (i := 13) rfl (by kernel_rfl) rfl rfl (det_pick_f rfl k1 rfl) ?_
                  refine JA_pd (i := 14) rfl (by kernel_rfl) rfl rfl (det_assign rfl) ?_
                  refine JA_done (by kernel_rfl) ?_
                  refine JE_block ?_
                  refine JE_seq ?_
                  refine JC_region ?_
                  refine JL_pd rfl (det_move rfl) ?_
                  refine JL_pd rfl (det_add rfl rfl ⟨by omega, by omega⟩) ?_
                  refine JL_pd rfl (det_assign rfl) ?_
                  refine JL_nil ?_
                  -- stop: end
                  refine JE_roundF hK2 (j + 1) (by omega) (by omega) (stsub_consI rfl (by omega) (stsub_consB rfl ((decide_eq_decide.2 Lk.ext'.symm).trans hsn.symm) stsub_nil)) (ht_cons (ht_cons ht_nil))
              · obtain rfl : j = m.locks.length := by omega
                rw [List.take_length]
                refine JC_exit ?_
                refine JE_seq_exit ?_
                refine JE_then_exit ?_
                refine JE_block_here ?_
                refine JE_seq ?_
                refine JC_seq ?_
                refine JC_region ?_
                refine JL_pd rfl (det_move rfl) ?_
                refine JL_pd rfl (det_move rfl) ?_
                -- stop: guard 1
                refine JL_split (d0 := 90) rfl (fun k2 => ?_) (fun k2 => ?_)
                · have hx := hgi k2
                  refine JL_guard rfl rfl k2 ?_
                  refine JL_pd rfl (det_move rfl) ?_
                  refine JL_guard rfl rfl k2 ?_
                  refine JL_pd rfl (det_not rfl) ?_
                  refine JL_pd rfl (det_pick_t rfl k2 rfl) ?_
                  refine JL_nil ?_
                  refine JE_seq ?_
                  -- stop: cond
                  refine JC_cond rfl (fun k3 => ?_) (fun k3 => ?_)
                  · simp [hx] at k3
                  · refine JC_skip ?_
                    refine JE_block ?_
                    refine JE_seq ?_
                    refine JC_region ?_
                    refine JL_pd rfl (det_move rfl) ?_
                    refine JL_pd rfl (det_add rfl rfl ⟨by omega, by omega⟩) ?_
                    refine JL_pd rfl (det_assign rfl) ?_
                    refine JL_nil ?_
                    -- stop: end
                    refine JE_roundF hK (i + 1, .slice (some ⟨b66.1, 0, none⟩) (i + 1) b66.2) (by simp only; omega) (by simp only; omega) (stsub_consI rfl (by simp only; omega) stsub_nil) (ht_cons (ht_ow hln1.symm rfl ht_nil))
                · refine JL_skip rfl rfl k2 rfl ?_
                  refine JL_skip rfl rfl k2 rfl ?_
                  refine JL_pd rfl (det_pick_f rfl k2 rfl) ?_
                  refine JL_nil ?_
                  refine JE_seq ?_
                  -- stop: cond
                  refine JC_cond rfl (fun k3 => ?_) (fun k3 => ?_)
                  · cases k3
                  · refine JC_skip ?_
                    refine JE_block ?_
                    refine JE_seq ?_
                    refine JC_region ?_
                    refine JL_pd rfl (det_move rfl) ?_
                    refine JL_pd rfl (det_add rfl rfl ⟨by omega, by omega⟩) ?_
                    refine JL_pd rfl (det_assign rfl) ?_
                    refine JL_nil ?_
                    -- stop: end
                    refine JE_roundF hK (i + 1, .slice (some ⟨b66.1, 0, none⟩) (i + 1) b66.2) (by simp only; omega) (by simp only; omega) (stsub_consI rfl (by simp only; omega) stsub_nil) (ht_cons (ht_ow hln1.symm rfl ht_nil))
            · obtain rfl : i = D.length := by omega
              rw [List.take_length] at hln
              rw [List.take_length]
              refine JC_slice (enc := encLk) (v := v) D noFp rfl rfl ?_
              rintro av cv rfl
              refine JC_keep b6 noFp ?_
              have f1 := ready_j (wo m D) (wa a av cv)
              rw [ready_of F.fa] at f1
              have f2 := Serve_j m a D av cv V (by omega)
              rw [F.ok] at f2
              have f3 := safe_j (wo m D) (wa a av cv) F.fa
              rw [F.safe] at f3
              refine JC_exit ?_
              refine JE_seq_exit ?_
              refine JE_then_exit ?_
              refine JE_block_here ?_
              refine JE_seq ?_
              refine JC_seq ?_
              refine JC_seq ?_
              refine JC_region ?_
              refine JL_dt rfl (det_loadKA rfl Try.isAgg26 Try.sizeOf26 rfl rfl) ?_
              -- stop: op  1 t95 := (call (Call (value f38) (t94) (26)))   <0>   191
              refine JL_step rfl rfl rfl (jo_callv rfl rfl Try.call38 rfl (f1)) fun _ => ?_
              refine JL_pd rfl (det_not rfl) ?_
              refine JL_pd rfl (det_move rfl) ?_
              -- stop: guard 3
              refine JL_is (d0 := 97) false rfl (by rfl) (fun g1 => ?_)
              refine JL_guard rfl rfl g1 ?_
              refine JL_dt rfl (det_loadKA rfl Try.isAgg26 Try.sizeOf26 rfl rfl) ?_
              refine JL_guard rfl rfl g1 ?_
              refine JL_pd rfl (det_fieldAddr rfl fo_26_3) ?_
              refine JL_guard rfl rfl g1 ?_
              refine JL_dt rfl (det_loadK rfl Try.isAgg24 rfl) ?_
              refine JL_guard rfl rfl g1 ?_
              -- stop: op  7 t101 := (call (Call (value f42) (t98 t100) (26 24)))   <4 6 3 3>   191
              refine JL_step rfl rfl rfl (jo_callv rfl rfl Try.call42 rfl (f2)) fun _ => ?_
              refine JL_guard rfl rfl g1 ?_
              refine JL_pd rfl (det_not rfl) ?_
              refine JL_pd rfl (det_pick_f rfl g1 rfl) ?_
              refine JL_nil ?_
              refine JE_seq ?_
              -- stop: cond
              refine JC_cond rfl (fun h6 => ?_) (fun h6 => ?_)
              · cases h6
              · refine JC_skip ?_
                refine JE_seq ?_
                refine JC_seq ?_
                refine JC_region ?_
                refine JL_dt rfl (det_loadKA rfl Try.isAgg26 Try.sizeOf26 rfl rfl) ?_
                -- stop: op  1 t106 := (call (Call (value f40) (t105) (26)))   <0>   194
                refine JL_step rfl rfl rfl (jo_callv rfl rfl Try.call40 rfl (f3)) fun _ => ?_
                refine JL_pd rfl (det_move rfl) ?_
                refine JL_pd rfl (det_extract rfl rfl) ?_
                refine JL_pd rfl (det_extract rfl rfl) ?_
                refine JL_pd rfl (det_assign rfl) ?_
                refine JL_pd rfl (det_assign rfl) ?_
                refine JL_nil ?_
                refine JE_seq ?_
                refine JC_seq ?_
                refine JC_seq ?_
                refine JC_region ?_
                refine JL_pd rfl (det_move rfl) ?_
                refine JL_pd rfl (det_not rfl) ?_
                refine JL_pd rfl (det_move rfl) ?_
                -- stop: guard 2
                refine JL_is (d0 := 111) false rfl (by rfl) (fun g2 => ?_)
                refine JL_guard rfl rfl g2 ?_
                refine JL_pd rfl (det_move rfl) ?_
                refine JL_guard rfl rfl g2 ?_
                refine JL_pd rfl (det_not rfl) ?_
                refine JL_pd rfl (det_pick_f rfl g2 rfl) ?_
                refine JL_nil ?_
                refine JE_seq ?_
                -- stop: cond
                refine JC_cond rfl (fun h7 => ?_) (fun h7 => ?_)
                · cases h7
                · refine JC_skip ?_
                  refine JE_seq ?_
                  refine JC_seq ?_
                  refine JC_seq ?_
                  refine JC_region ?_
                  refine JL_pd rfl (det_assign rfl) ?_
                  refine JL_nil ?_
                  refine JE_seq ?_
                  refine JC_block ?_
                  -- stop: loop
                  refine JC_loopF (γ := Nat) (fun i => i ≤ D.length) (fun i => [(12, I i)]) (fun i => []) (fun i => D.length - i) 0 (Nat.zero_le _) (stsub_consI rfl rfl stsub_nil) ht_nil ?_
                  rintro i hi K hK
                  dsimp only [List.cons_append, List.nil_append] at hi ⊢
                  refine JC_seq ?_
                  refine JC_seq ?_
                  refine JC_region ?_
                  refine JL_pd rfl (det_move rfl) ?_
                  refine JL_pd rfl (det_fieldAddr rfl fo_26_3) ?_
                  refine JL_dt rfl (det_loadK rfl Try.isAgg24 rfl) ?_
                  refine JL_pd rfl (det_len rfl Try.runUnderlying24) ?_
                  refine JL_pd rfl (det_lss rfl rfl) ?_
                  refine JL_nil ?_
                  refine JE_seq ?_
                  -- stop: cond
                  refine JC_if rfl (fun h8 => ?_) (fun h8 => ?_)
                  · have hi2 : i < D.length := by omega
                    obtain ⟨g1', g2'⟩ := F.less i hi2
                    have hlL : (D.take i ++ D.drop (i + 1)).length = i + (D.length - (i + 1)) := by rw [List.length_append, List.length_take, List.length_drop]; omega
                    refine JC_pure (p := D.length ≤ cv) (by intro w' h; exact (Knows.know (F := KSl av D.length cv encLk D) w' h).1.1) fun hcap => ?_
                    have hle := hDl
                    refine JC_know (R' := KAnd (KSl av i cv encLk (D.take i)) (KAnd (KSl (dropA av (i + 1) cv 2) (D.length - (i + 1)) (cv - (i + 1)) encLk (D.drop (i + 1))) _)) (fun w' h => ⟨KSl_take (Knows.know (F := KSl av D.length cv encLk D) w' h) hi, KSl_drop (Knows.know (F := KSl av D.length cv encLk D) w' h) hi2, h⟩) ?_
                    have hlz : 0 + i + (D.length - (i + 1)) = (D.take i ++ D.drop (i + 1)).length := by rw [hlL]; omega
                    have f4 := fun b => safe_j (wo m (D.take i ++ D.drop (i + 1))) b g1'
                    rw [g2'] at f4
                    refine JC_skip ?_
                    refine JE_seq ?_
                    refine JC_seq ?_
                    refine JC_block ?_
                    refine JC_seq ?_
                    refine JC_region ?_
                    refine JL_dt rfl (det_loadKA rfl Try.isAgg26 Try.sizeOf26 rfl rfl) ?_
                    refine JL_step rfl rfl rfl (jo_alloc0 Try.zeroValue26 rfl) fun b13 => ?_
                    refine JL_step0 rfl rfl (jo_store rfl rfl rfl (by first | (simp only [splice_norm]; done) | (simp only [splice_norm]; rfl) | rfl) Try.sizeOf26 rfl rfl) fun _ => ?_
                    refine JL_nil ?_
                    refine JE_seq ?_
                    refine JC_seq ?_
                    refine JC_draw0 (by kernel_rfl) ?_
                    refine JA_pd (i := 1) rfl (by kernel_rfl) rfl rfl (det_fieldAddr rfl fo_26_3) ?_
                    refine JA_dt (i := 2) rfl (by kernel_rfl) (by kernel_rfl) rfl rfl (det_loadK rfl Try.isAgg24 rfl) ?_
                    refine JA_pd (i := 3) rfl (by kernel_rfl) rfl rfl (det_move rfl) ?_
                    refine JA_pd (i := 4) rfl (by kernel_rfl) rfl rfl (det_sliceK i rfl rfl rfl (by omega) Try.runUnderlying24 Try.sizeOf63) ?_
                    refine JA_pd (i := 6) rfl (by kernel_rfl) rfl rfl (det_fieldAddr rfl fo_26_3) ?_
                    refine JA_dt (i := 7) rfl (by kernel_rfl) (by kernel_rfl) rfl rfl (det_loadK rfl Try.isAgg24 rfl) ?_
                    refine JA_pd (i := 8) rfl (by kernel_rfl) rfl rfl (det_move rfl) ?_
                    refine JA_pd (i := 9) rfl (by kernel_rfl) rfl rfl (det_add rfl rfl ⟨by omega, by omega⟩) ?_
                    refine JA_pd (i := 10) rfl (by kernel_rfl) rfl rfl (det_sliceF (i + 1) rfl rfl (by omega) (by omega) Try.runUnderlying24 Try.sizeOf63) ?_
                    refine JA_oneH (i := 0) (by kernel_rfl) rfl rfl (jo_buildOwn (z := 2) rfl (bsl_24_0) rfl (by decide)) (fun _ => ⟨HIn.sub, Knows.know⟩) fun b123 => ?_
                    refine JA_oneH (i := 5) (by kernel_rfl) rfl rfl (jo_appendK (e := encLk) el_24 rfl rfl (fun _ => rfl) (by omega)) (fun _ => ⟨HIn.sub, Knows.know⟩) fun b128 => ?_
                    refine JA_oneH (i := 11) (by kernel_rfl) rfl rfl (jo_appendK (e := encLk) el_24 rfl rfl (fun _ => rfl) (by omega)) (fun _ => ⟨HIn.sub, Knows.know⟩) fun b134 => ?_
                    refine JA_slice (enc := encLk) (v := b134) (D.take i ++ D.drop (i + 1)) noFp (by simp) hlz ?_
                    rintro av2 cv2 hv2
                    rw [hlz] at hv2 ⊢
                    subst hv2
                    refine JA_pd (i := 12) rfl (by kernel_rfl) rfl rfl (det_fieldAddr rfl fo_26_3) ?_
                    refine JA_oneH (i := 13) (by kernel_rfl) rfl rfl (jo_store rfl rfl rfl (by first | (simp only [splice_norm]; done) | (simp only [splice_norm]; rfl) | rfl) Try.sizeOf24 rfl rfl) (fun _ => ⟨HIn.sub, Knows.know⟩) fun _ => ?_
                    refine JA_done (by kernel_rfl) ?_
                    refine JE_seq ?_
                    refine JC_seq ?_
                    refine JC_region ?_
                    refine JL_keep b13 noFp ?_
                    refine JL_dt rfl (det_loadKA rfl Try.isAgg26 Try.sizeOf26 rfl rfl) ?_
                    -- stop: op  1 t138 := (call (Call (value f40) (t137) (26)))   <0>   201
                    refine JL_step rfl rfl rfl (jo_callv rfl rfl Try.call40 rfl (f4 (wa a av2 cv2))) fun _ => ?_
                    refine JL_pd rfl (det_move rfl) ?_
                    refine JL_pd rfl (det_extract rfl rfl) ?_
                    refine JL_pd rfl (det_extract rfl rfl) ?_
                    refine JL_pd rfl (det_assign rfl) ?_
                    refine JL_pd rfl (det_assign rfl) ?_
                    refine JL_nil ?_
                    refine JE_seq ?_
                    refine JC_seq ?_
                    refine JC_region ?_
                    refine JL_pd rfl (det_move rfl) ?_
                    refine JL_pd rfl (det_move rfl) ?_
                    -- stop: guard 1
                    refine JL_is (d0 := 142) false rfl (by rfl) (fun g3 => ?_)
                    refine JL_guard rfl rfl g3 ?_
                    refine JL_pd rfl (det_move rfl) ?_
                    refine JL_guard rfl rfl g3 ?_
                    refine JL_pd rfl (det_not rfl) ?_
                    refine JL_pd rfl (det_pick_f rfl g3 rfl) ?_
                    refine JL_nil ?_
                    refine JE_seq ?_
                    -- stop: cond
                    refine JC_cond rfl (fun h9 => ?_) (fun h9 => ?_)
                    · cases h9
                    · refine JC_skip ?_
                      refine JE_block ?_
                      refine JE_seq ?_
                      refine JC_region ?_
                      refine JL_pd rfl (det_move rfl) ?_
                      refine JL_pd rfl (det_add rfl rfl ⟨by omega, by omega⟩) ?_
                      refine JL_pd rfl (det_assign rfl) ?_
                      refine JL_nil ?_
                      -- stop: end
                      refine JE_roundF hK (i + 1) (by omega) (by omega) (stsub_consI rfl (by omega) stsub_nil) ht_nil
                  · refine JC_exit ?_
                    refine JE_seq_exit ?_
                    refine JE_then_exit ?_
                    refine JE_block_here ?_
                    refine JE_seq ?_
                    refine JC_seq ?_
                    refine JC_region ?_
                    refine JL_step rfl rfl rfl (jo_callv rfl rfl Try.call18 rfl (wakes_j)) fun _ => ?_
                    refine JL_pd rfl (det_assign rfl) ?_
                    refine JL_nil ?_
                    refine JE_seq ?_
                    refine JC_ret ?_
                    -- stop: out
                    refine JE_out (.inl rfl) () (results1 Try.results8 (res_tmp rfl)) rfl (List.Perm.refl _) (fun _ _ => trivial)
end Go.Proofs.Ytgbfjcgjcnndpaa

/- The statements about cycle: CycleProves. -/
import Derived.Test.YtgbfjcgjcnndpaaC32
set_option linter.unusedSimpArgs false
set_option linter.unusedVariables false
namespace Go.Proofs.Ytgbfjcgjcnndpaa
open Go.RowKit Go.Shelf

theorem lk_le {m : Mc} (V : Valid m) : ∀ l ∈ m.locks, l.sg ≤ 7 := fun l hl => by
  have := V.lk l hl
  unfold okLock inI at this
  split at this
  · omega
  · simp only [Bool.and_eq_true, decide_eq_true_eq] at this; omega
theorem inW_val (w : Nat → Bool) (s : Sd) : inW w s = (inI s.st 0 7 && inI s.sp 0 2 && w (ix s)) := by
  rw [Bool.eq_iff_iff, inW_iff, Bool.and_eq_true, Bool.and_eq_true]
  unfold inI
  rw [decide_eq_true_eq, decide_eq_true_eq]
  constructor
  · rintro ⟨j, hj, h1, rfl⟩
    rw [ix_sd]
    exact ⟨⟨by unfold sdOf; simp only; omega, by unfold sdOf; simp only; omega⟩, h1⟩
  · rintro ⟨⟨h1, h2⟩, h3⟩
    exact ⟨ix s, ix_lt h1.1 (by omega) h2.1 h2.2, h3, (sd_ix h1.1 h2.1 h2.2).symm⟩
set_option maxRecDepth 100000 in
set_option maxHeartbeats 1000000 in
theorem CycleProves_j (m : Mc) (a : MA) (sg : List Int) (sa : Option Addr) (sc : Nat) (tg : Sd) : Cv Try.prog 13 [.agg #[I m.states, .slice a.sa m.steps.length a.sc, .slice a.ra m.running.length a.rc, .slice a.ka m.locks.length a.kc], .slice sa sg.length sc, .agg #[I tg.st, I tg.sp]] (KAnd (KMc m a) (KSl sa sg.length sc encI sg)) (.bool true) := by
  refine Cx_of Try.func13 rfl Try.ntmps13 rfl fun w0 M0 => ?_
  refine JC_seq ?_
  refine JC_region ?_
  refine JL_step rfl rfl rfl (jo_box rfl rfl) fun b3 => ?_
  refine JL_step rfl rfl rfl (jo_box rfl rfl) fun b5 => ?_
  refine JL_pd rfl (det_assign rfl) ?_
  refine JL_nil ?_
  refine JE_seq ?_
  refine JC_seq ?_
  refine JC_seq ?_
  refine JC_region ?_
  refine JL_dt rfl (det_loadKA rfl Try.isAgg26 Try.sizeOf26 rfl rfl) ?_
  refine JL_step rfl rfl rfl (jo_callv rfl rfl Try.call17 rfl (Thin_j m a)) fun _ => ?_
  refine JL_pd rfl (det_not rfl) ?_
  refine JL_pd rfl (det_move rfl) ?_
  -- stop: guard 3
  refine JL_join1 4 18 (.bool (!thinB m || decide ((40 : Int) < (sg.length : Int)))) (fun hj => ?_) ?_
  · refine JL_split (d0 := 14) rfl (fun q1 => ?_) (fun q1 => ?_)
    · refine JL_skip rfl rfl q1 rfl ?_
      refine JL_skip rfl rfl q1 rfl ?_
      refine JL_skip rfl rfl q1 rfl ?_
      refine JL_pd rfl (det_pick_t rfl q1 rfl) ?_
      exact hj (by kernel_rfl) (stsub_consB rfl (by clear hj; first | rfl | (simp only [q1, Bool.and_true, Bool.true_and, Bool.false_and, Bool.and_false, Bool.or_true, Bool.true_or, Bool.or_false, Bool.false_or, Bool.not_true, Bool.not_false]; done) | (simp [q1]; done) | (simp at q1; done) | (simp [q1] <;> omega) | (exfalso; simp at q1; omega)) stsub_nil)
    · refine JL_guard rfl rfl q1 ?_
      refine JL_pd rfl (det_move rfl) ?_
      refine JL_guard rfl rfl q1 ?_
      refine JL_pd rfl (det_len rfl Try.runUnderlying23) ?_
      refine JL_guard rfl rfl q1 ?_
      refine JL_pd rfl (det_gtr rfl rfl) ?_
      refine JL_pd rfl (det_pick_f rfl q1 rfl) ?_
      exact hj (by kernel_rfl) (stsub_consB rfl (by clear hj; first | rfl | (simp only [q1, Bool.and_true, Bool.true_and, Bool.false_and, Bool.and_false, Bool.or_true, Bool.true_or, Bool.or_false, Bool.false_or, Bool.not_true, Bool.not_false]; done) | (simp [q1]; done) | (simp at q1; done) | (simp [q1] <;> omega) | (exfalso; simp at q1; omega)) stsub_nil)
  refine JL_nil ?_
  refine JE_seq ?_
  -- stop: cond
  refine JC_cond rfl (fun h1 => ?_) (fun h1 => ?_)
  · refine JC_seq ?_
    refine JC_region ?_
    refine JL_step rfl rfl rfl (jo_callv rfl rfl Try.call18 rfl (wakes_j)) fun _ => ?_
    refine JL_pd rfl (det_assign rfl) ?_
    refine JL_nil ?_
    refine JE_seq ?_
    refine JC_ret ?_
    refine JE_seq_ret ?_
    -- stop: out
    refine JE_out (.inl rfl) () (results1 Try.results13 (res_tmp rfl)) rfl (List.Perm.refl _) (fun _ _ => trivial)
  · rw [Bool.or_eq_false_iff] at h1
    have hth := thin_lens (m := m) (by simpa using h1.1)
    have hsl : sg.length ≤ 40 := by have := of_decide_eq_false h1.2; omega
    by_cases he : fault m = 0
    · have V := valid_of he
      have hlk := V.nl
      refine JC_skip ?_
      refine JE_seq ?_
      refine JC_seq ?_
      refine JC_draw [] (by kernel_rfl) ?_
      refine JA_dt (i := 0) rfl (by kernel_rfl) (by kernel_rfl) rfl rfl (det_loadKA rfl Try.isAgg26 Try.sizeOf26 rfl rfl) ?_
      refine JA_pd (i := 2) rfl (by kernel_rfl) rfl rfl (det_move rfl) ?_
      refine JA_pd (i := 4) rfl (by kernel_rfl) rfl rfl (det_fieldAddr rfl fo_53_0) ?_
      refine JA_dt (i := 5) rfl (by kernel_rfl) (by kernel_rfl) rfl rfl (det_loadK rfl Try.isAgg3 rfl) ?_
      refine JA_pd (i := 6) rfl (by kernel_rfl) rfl rfl (det_fieldAddr rfl fo_53_1) ?_
      refine JA_dt (i := 7) rfl (by kernel_rfl) (by kernel_rfl) rfl rfl (det_loadK rfl Try.isAgg3 rfl) ?_
      refine JA_pd (i := 8) rfl (by kernel_rfl) rfl rfl (det_build rfl (bld_77_0_1 _ _)) ?_
      refine JA_one (i := 1) (by kernel_rfl) rfl rfl (jo_call rfl rfl Try.call20 rfl (Machine_j m a (by omega) (by omega) (by omega))) (fun _ => ⟨hsub_drop 0 rfl, fun _ h => h.2⟩) fun x21 => ?_
      refine JA_one (i := 3) (by kernel_rfl) rfl rfl (jo_call rfl rfl Try.call35 rfl (lList_j sg sa sc (by omega))) (fun _ => ⟨hsub_drop 0 rfl, fun _ h => h.2⟩) fun x23 => ?_
      refine JA_one (i := 9) (by kernel_rfl) rfl rfl (jo_callv rfl rfl Try.call46 rfl (ProveRun_jo m x21 tg x23.1 x23.2 sg he)) (fun _ => ⟨hsub_refl, fun _ h => h⟩) fun _ => ?_
      refine JA_pd (i := 10) rfl (by kernel_rfl) rfl rfl (det_assign rfl) ?_
      refine JA_done (by kernel_rfl) ?_
      refine JE_seq ?_
      refine JC_seq ?_
      refine JC_seq ?_
      refine JC_region ?_
      refine JL_dt rfl (det_loadKA rfl Try.isAgg26 Try.sizeOf26 rfl rfl) ?_
      refine JL_step rfl rfl rfl (jo_callv rfl rfl Try.call30 rfl (Fault_j m a)) fun _ => ?_
      refine JL_pd rfl (det_neq rfl rfl) ?_
      refine JL_nil ?_
      refine JE_seq ?_
      -- stop: cond
      refine JC_ifn rfl (fun h2 => ?_) (fun h2 => ?_)
      · exact absurd he h2
      · refine JC_skip ?_
        refine JE_seq ?_
        refine JC_seq ?_
        refine JC_region ?_
        refine JL_step rfl rfl rfl (jo_callv rfl rfl Try.call47 rfl (Begin_j)) fun _ => ?_
        refine JL_step rfl rfl rfl (jo_alloc0 Try.zeroValue45 rfl) fun b8 => ?_
        refine JL_step0 rfl rfl (jo_store (vs := encW 24 (begW)) rfl rfl rfl (splice_whole (by rw [encW_len]; rfl)) Try.sizeOf45 (Nat.ble_eq_true_of_le (by rw [encW_len]; decide)) (encW_cells 24 _)) fun _ => ?_
        refine JL_nil ?_
        refine JE_seq ?_
        refine JC_seq ?_
        refine JC_seq ?_
        refine JC_region ?_
        refine JL_pd rfl (det_assign rfl) ?_
        refine JL_nil ?_
        refine JE_seq ?_
        refine JC_block ?_
        -- stop: loop
        refine JC_keep b3 noFp ?_
        refine JC_loopF (γ := Nat) (fun i => i ≤ sg.length) (fun i => [(9, I i)]) (fun i => [bx b8 (encW 24 (runW m (sg.take i)))]) (fun i => sg.length - i) 0 (Nat.zero_le _) (stsub_consI rfl rfl stsub_nil) (ht_bx rfl ht_nil) ?_
        intro i hi K hK
        dsimp only [List.cons_append, List.nil_append]
        refine JC_seq ?_
        refine JC_seq ?_
        refine JC_region ?_
        refine JL_pd rfl (det_move rfl) ?_
        refine JL_pd rfl (det_move rfl) ?_
        refine JL_pd rfl (det_len rfl Try.runUnderlying23) ?_
        refine JL_pd rfl (det_lss rfl rfl) ?_
        refine JL_nil ?_
        refine JE_seq ?_
        -- stop: cond
        refine JC_if rfl (fun h3 => ?_) (fun h3 => ?_)
        · have hi2 : i < sg.length := by omega
          have hrn := runW_snoc m sg hi2
          refine JC_skip ?_
          refine JE_seq ?_
          refine JC_seq ?_
          refine JC_block ?_
          refine JC_draw [9] (by kernel_rfl) ?_
          refine JA_dt (i := 0) rfl (by kernel_rfl) (by kernel_rfl) rfl rfl (det_loadKA rfl Try.isAgg26 Try.sizeOf26 rfl rfl) ?_
          refine JA_pd (i := 1) rfl (by kernel_rfl) rfl rfl (det_fieldAddr rfl fo_26_3) ?_
          refine JA_dt (i := 2) rfl (by kernel_rfl) (by kernel_rfl) rfl rfl (det_loadK rfl Try.isAgg24 rfl) ?_
          refine JA_dt (i := 3) rfl (by kernel_rfl) (by kernel_rfl) rfl rfl (det_loadKA (vs := encW 24 (runW m (sg.take i))) rfl Try.isAgg45 Try.sizeOf45 (by rw [List.drop_zero]; exact List.take_of_length_le (by rw [encW_len]; decide)) (encW_len 24 _)) ?_
          refine JA_pd (i := 4) rfl (by kernel_rfl) rfl rfl (det_move rfl) ?_
          refine JA_pd (i := 5) rfl (by kernel_rfl) rfl rfl (det_move rfl) ?_
          refine JA_dt (i := 6) rfl (by kernel_rfl) (by kernel_rfl) rfl rfl (det_indexAddr rfl rfl (by first | rfl | omega) (by first | assumption | omega | decide) Try.runUnderlying23 Try.sizeOf3) ?_
          refine JA_dt (i := 7) rfl (by kernel_rfl) (by kernel_rfl) rfl rfl (det_loadE rfl (by first | assumption | omega | decide) Try.isAgg3 rfl rfl) ?_
          refine JA_one (i := 8) (by kernel_rfl) rfl rfl (jo_callv rfl rfl Try.call48 rfl (Behind_j m a m.locks a.ka a.kc (runW m (sg.take i)) sg[i] V (by omega) (runW_in V _) (.inr (lk_le V)))) (fun _ => ⟨hsub_refl, fun _ h => h⟩) fun _ => ?_
          refine JA_tail (i := 9) (by kernel_rfl) rfl rfl rfl rfl (jo_store (vs := encW 24 (behW m m.locks (runW m (sg.take i)) sg[i])) rfl rfl rfl (splice_whole (by rw [encW_len, encW_len])) Try.sizeOf45 (Nat.ble_eq_true_of_le (by rw [encW_len, encW_len]; decide)) (encW_cells 24 _)) fun _ => ?_
          refine JT_done (by kernel_rfl) ?_
          refine JE_block ?_
          refine JE_seq ?_
          refine JC_region ?_
          refine JL_pd rfl (det_move rfl) ?_
          refine JL_pd rfl (det_add rfl rfl ⟨by omega, by omega⟩) ?_
          refine JL_pd rfl (det_assign rfl) ?_
          refine JL_nil ?_
          -- stop: end
          refine JE_roundF hK (i + 1) (by omega) (by omega) (stsub_consI rfl (by omega) stsub_nil) (ht_bx (by rw [hrn]) ht_nil)
        · obtain rfl : i = sg.length := by omega
          rw [List.take_length]
          have hval := inW_val (runW m sg) tg
          refine JC_exit ?_
          refine JE_seq_exit ?_
          refine JE_then_exit ?_
          refine JE_block_here ?_
          refine JE_seq ?_
          refine JC_seq ?_
          refine JC_draw [] (by kernel_rfl) ?_
          refine JA_pd (i := 0) rfl (by kernel_rfl) rfl rfl (det_fieldAddr rfl fo_53_0) ?_
          refine JA_dt (i := 1) rfl (by kernel_rfl) (by kernel_rfl) rfl rfl (det_loadK rfl Try.isAgg3 rfl) ?_
          refine JA_one (i := 2) (by kernel_rfl) rfl rfl (jo_callv rfl rfl Try.call36 rfl (In_j _ _ _)) (fun _ => ⟨hsub_refl, fun _ h => h⟩) fun _ => ?_
          refine JA_pd (i := 3) rfl (by kernel_rfl) rfl rfl (det_move rfl) ?_
          -- stop: guard 3
          refine JA_split (d0 := 57) rfl (fun k1 => ?_) (fun k1 => ?_)
          · refine JA_gpd (i := 4) rfl (by kernel_rfl) rfl rfl rfl rfl k1 (det_fieldAddr rfl fo_53_1) ?_
            refine JA_gdt (i := 5) rfl (by kernel_rfl) (by kernel_rfl) rfl rfl rfl rfl k1 (det_loadK rfl Try.isAgg3 rfl) ?_
            refine JA_gone (i := 6) (by kernel_rfl) rfl rfl rfl k1 rfl (jo_callv rfl rfl Try.call36 rfl (In_j _ _ _)) (fun _ => ⟨hsub_refl, fun _ h => h⟩) fun _ => ?_
            refine JA_pd (i := 7) rfl (by kernel_rfl) rfl rfl (det_pick_t rfl k1 rfl) ?_
            refine JA_pd (i := 8) rfl (by kernel_rfl) rfl rfl (det_move rfl) ?_
            -- stop: guard 8
            refine JA_split (d0 := 62) rfl (fun k2 => ?_) (fun k2 => ?_)
            · have q1 : 0 ≤ tg.st ∧ tg.st ≤ 7 := by simpa [inI] using k1
              have q2 : 0 ≤ tg.sp ∧ tg.sp ≤ 2 := by simpa [inI] using k2
              have e1 : tg.st.tmod 8 = (tg.st.toNat : Int) := by rw [Int.tmod_eq_emod_of_nonneg q1.1]; omega
              have e2 : tg.sp.tmod 3 = (tg.sp.toNat : Int) := by rw [Int.tmod_eq_emod_of_nonneg q2.1]; omega
              have hoff : 0 + tg.st.toNat * 3 + tg.sp.toNat * 1 = ix tg := by unfold ix; omega
              have hix : ix tg < 24 := ix_lt q1.1 (by omega) q2.1 q2.2
              refine JA_gpd (i := 9) rfl (by kernel_rfl) rfl rfl rfl rfl k2 (det_fieldAddr rfl fo_53_0) ?_
              refine JA_gdt (i := 10) rfl (by kernel_rfl) (by kernel_rfl) rfl rfl rfl rfl k2 (det_loadK rfl Try.isAgg3 rfl) ?_
              refine JA_gpd (i := 11) rfl (by kernel_rfl) rfl rfl rfl rfl k2 (det_rem rfl rfl (by omega)) ?_
              refine JA_gpd (i := 12) rfl (by kernel_rfl) rfl rfl rfl rfl k2 (det_fieldAddr rfl fo_53_1) ?_
              refine JA_gdt (i := 13) rfl (by kernel_rfl) (by kernel_rfl) rfl rfl rfl rfl k2 (det_loadK rfl Try.isAgg3 rfl) ?_
              refine JA_gpd (i := 14) rfl (by kernel_rfl) rfl rfl rfl rfl k2 (det_rem rfl rfl (by omega)) ?_
              refine JA_gpd (i := 15) rfl (by kernel_rfl) rfl rfl rfl rfl k2 (det_indexArr (i := tg.st.toNat) rfl rfl e1 (by omega) Try.runUnderlying45 Try.sizeOf43) ?_
              refine JA_gpd (i := 16) rfl (by kernel_rfl) rfl rfl rfl rfl k2 (det_indexArr (i := tg.sp.toNat) rfl rfl e2 (by omega) Try.runUnderlying43 Try.sizeOf4) ?_
              refine JA_gdt (i := 17) rfl (by kernel_rfl) (by kernel_rfl) rfl rfl rfl rfl k2 (det_loadK (v := .bool (runW m sg (ix tg))) rfl Try.isAgg4 (by rw [hoff]; exact encW_get hix)) ?_
              refine JA_pd (i := 18) rfl (by kernel_rfl) rfl rfl (det_pick_t rfl k2 rfl) ?_
              refine JA_pd (i := 19) rfl (by kernel_rfl) rfl rfl (det_assign rfl) ?_
              refine JA_done (by kernel_rfl) ?_
              refine JE_seq ?_
              refine JC_seq ?_
              refine JC_region ?_
              refine JL_pd rfl (det_move rfl) ?_
              refine JL_pd rfl (det_move rfl) ?_
              refine JL_pd rfl (det_eqlB rfl rfl Try.underlying4) ?_
              refine JL_pd rfl (det_move rfl) ?_
              -- stop: guard 3
              skip
              refine JL_is (d0 := 76) true rfl (by (rw [hval, k1, k2]; simp)) (fun g1 => ?_)
              refine JL_guard rfl rfl g1 ?_
              refine JL_step rfl rfl rfl (jo_callv rfl rfl Try.call18 rfl (wakes_j)) fun _ => ?_
              refine JL_pd rfl (det_pick_t rfl g1 rfl) ?_
              refine JL_pd rfl (det_assign rfl) ?_
              refine JL_nil ?_
              refine JE_seq ?_
              refine JC_ret ?_
              -- stop: out
              refine JE_out (.inl rfl) () (results1 Try.results13 (res_tmp rfl)) rfl (List.Perm.refl _) (fun _ _ => trivial)
            · refine JA_skip (i := 9) rfl (by kernel_rfl) rfl rfl rfl rfl k2 ?_
              refine JA_skip (i := 10) rfl (by kernel_rfl) rfl rfl rfl rfl k2 ?_
              refine JA_skip (i := 11) rfl (by kernel_rfl) rfl rfl rfl rfl k2 ?_
              refine JA_skip (i := 12) rfl (by kernel_rfl) rfl rfl rfl rfl k2 ?_
              refine JA_skip (i := 13) rfl (by kernel_rfl) rfl rfl rfl rfl k2 ?_
              refine JA_skip (i := 14) rfl (by kernel_rfl) rfl rfl rfl rfl k2 ?_
              refine JA_skip (i := 15) rfl (by kernel_rfl) rfl rfl rfl rfl k2 ?_
              refine JA_skip (i := 16) rfl (by kernel_rfl) rfl rfl rfl rfl k2 ?_
              refine JA_skip (i := 17) rfl (by kernel_rfl) rfl rfl rfl rfl k2 ?_
              refine JA_pd (i := 18) rfl (by kernel_rfl) rfl rfl (det_pick_f rfl k2 rfl) ?_
              refine JA_pd (i := 19) rfl (by kernel_rfl) rfl rfl (det_assign rfl) ?_
              refine JA_done (by kernel_rfl) ?_
              refine JE_seq ?_
              refine JC_seq ?_
              refine JC_region ?_
              refine JL_pd rfl (det_move rfl) ?_
              refine JL_pd rfl (det_move rfl) ?_
              refine JL_pd rfl (det_eqlB rfl rfl Try.underlying4) ?_
              refine JL_pd rfl (det_move rfl) ?_
              -- stop: guard 3
              skip
              refine JL_is (d0 := 76) true rfl (by (rw [hval, k1, k2]; simp)) (fun g1 => ?_)
              refine JL_guard rfl rfl g1 ?_
              refine JL_step rfl rfl rfl (jo_callv rfl rfl Try.call18 rfl (wakes_j)) fun _ => ?_
              refine JL_pd rfl (det_pick_t rfl g1 rfl) ?_
              refine JL_pd rfl (det_assign rfl) ?_
              refine JL_nil ?_
              refine JE_seq ?_
              refine JC_ret ?_
              -- stop: out
              refine JE_out (.inl rfl) () (results1 Try.results13 (res_tmp rfl)) rfl (List.Perm.refl _) (fun _ _ => trivial)
          · refine JA_skip (i := 4) rfl (by kernel_rfl) rfl rfl rfl rfl k1 ?_
            refine JA_skip (i := 5) rfl (by kernel_rfl) rfl rfl rfl rfl k1 ?_
            refine JA_skip (i := 6) rfl (by kernel_rfl) rfl rfl rfl rfl k1 ?_
            refine JA_pd (i := 7) rfl (by kernel_rfl) rfl rfl (det_pick_f rfl k1 rfl) ?_
            refine JA_pd (i := 8) rfl (by kernel_rfl) rfl rfl (det_move rfl) ?_
            -- stop: guard 8
            refine JA_is (d0 := 62) false rfl (by rfl) (fun g1 => ?_)
            refine JA_skip (i := 9) rfl (by kernel_rfl) rfl rfl rfl rfl g1 ?_
            refine JA_skip (i := 10) rfl (by kernel_rfl) rfl rfl rfl rfl g1 ?_
            refine JA_skip (i := 11) rfl (by kernel_rfl) rfl rfl rfl rfl g1 ?_
            refine JA_skip (i := 12) rfl (by kernel_rfl) rfl rfl rfl rfl g1 ?_
            refine JA_skip (i := 13) rfl (by kernel_rfl) rfl rfl rfl rfl g1 ?_
            refine JA_skip (i := 14) rfl (by kernel_rfl) rfl rfl rfl rfl g1 ?_
            refine JA_skip (i := 15) rfl (by kernel_rfl) rfl rfl rfl rfl g1 ?_
            refine JA_skip (i := 16) rfl (by kernel_rfl) rfl rfl rfl rfl g1 ?_
            refine JA_skip (i := 17) rfl (by kernel_rfl) rfl rfl rfl rfl g1 ?_
            refine JA_pd (i := 18) rfl (by kernel_rfl) rfl rfl (det_pick_f rfl g1 rfl) ?_
            refine JA_pd (i := 19) rfl (by kernel_rfl) rfl rfl (det_assign rfl) ?_
            refine JA_done (by kernel_rfl) ?_
            refine JE_seq ?_
            refine JC_seq ?_
            refine JC_region ?_
            refine JL_pd rfl (det_move rfl) ?_
            refine JL_pd rfl (det_move rfl) ?_
            refine JL_pd rfl (det_eqlB rfl rfl Try.underlying4) ?_
            refine JL_pd rfl (det_move rfl) ?_
            -- stop: guard 3
            skip
            refine JL_is (d0 := 76) true rfl (by (rw [hval, k1]; simp)) (fun g1 => ?_)
            refine JL_guard rfl rfl g1 ?_
            refine JL_step rfl rfl rfl (jo_callv rfl rfl Try.call18 rfl (wakes_j)) fun _ => ?_
            refine JL_pd rfl (det_pick_t rfl g1 rfl) ?_
            refine JL_pd rfl (det_assign rfl) ?_
            refine JL_nil ?_
            refine JE_seq ?_
            refine JC_ret ?_
            -- stop: out
            refine JE_out (.inl rfl) () (results1 Try.results13 (res_tmp rfl)) rfl (List.Perm.refl _) (fun _ _ => trivial)
    · skip
      refine JC_skip ?_
      refine JE_seq ?_
      refine JC_seq ?_
      refine JC_draw [] (by kernel_rfl) ?_
      refine JA_dt (i := 0) rfl (by kernel_rfl) (by kernel_rfl) rfl rfl (det_loadKA rfl Try.isAgg26 Try.sizeOf26 rfl rfl) ?_
      refine JA_pd (i := 2) rfl (by kernel_rfl) rfl rfl (det_move rfl) ?_
      refine JA_pd (i := 4) rfl (by kernel_rfl) rfl rfl (det_fieldAddr rfl fo_53_0) ?_
      refine JA_dt (i := 5) rfl (by kernel_rfl) (by kernel_rfl) rfl rfl (det_loadK rfl Try.isAgg3 rfl) ?_
      refine JA_pd (i := 6) rfl (by kernel_rfl) rfl rfl (det_fieldAddr rfl fo_53_1) ?_
      refine JA_dt (i := 7) rfl (by kernel_rfl) (by kernel_rfl) rfl rfl (det_loadK rfl Try.isAgg3 rfl) ?_
      refine JA_pd (i := 8) rfl (by kernel_rfl) rfl rfl (det_build rfl (bld_77_0_1 _ _)) ?_
      refine JA_one (i := 1) (by kernel_rfl) rfl rfl (jo_call rfl rfl Try.call20 rfl (Machine_j m a (by omega) (by omega) (by omega))) (fun _ => ⟨hsub_drop 0 rfl, fun _ h => h.2⟩) fun x21 => ?_
      refine JA_one (i := 3) (by kernel_rfl) rfl rfl (jo_call rfl rfl Try.call35 rfl (lList_j sg sa sc (by omega))) (fun _ => ⟨hsub_drop 0 rfl, fun _ h => h.2⟩) fun x23 => ?_
      refine JA_one (i := 9) (by kernel_rfl) rfl rfl (jo_callv rfl rfl Try.call46 rfl (ProveRun_je m x21 tg x23.1 x23.2 sg he)) (fun _ => ⟨hsub_refl, fun _ h => h⟩) fun _ => ?_
      refine JA_pd (i := 10) rfl (by kernel_rfl) rfl rfl (det_assign rfl) ?_
      refine JA_done (by kernel_rfl) ?_
      refine JE_seq ?_
      refine JC_seq ?_
      refine JC_seq ?_
      refine JC_region ?_
      refine JL_dt rfl (det_loadKA rfl Try.isAgg26 Try.sizeOf26 rfl rfl) ?_
      refine JL_step rfl rfl rfl (jo_callv rfl rfl Try.call30 rfl (Fault_j m a)) fun _ => ?_
      refine JL_pd rfl (det_neq rfl rfl) ?_
      refine JL_nil ?_
      refine JE_seq ?_
      -- stop: cond
      refine JC_ifn rfl (fun h2 => ?_) (fun h2 => ?_)
      · refine JC_seq ?_
        refine JC_region ?_
        refine JL_pd rfl (det_move rfl) ?_
        refine JL_pd rfl (det_not rfl) ?_
        refine JL_pd rfl (det_move rfl) ?_
        -- stop: guard 2
        refine JL_is (d0 := 35) true rfl (by simp) (fun h2 => ?_)
        refine JL_guard rfl rfl h2 ?_
        refine JL_step rfl rfl rfl (jo_callv rfl rfl Try.call18 rfl (wakes_j)) fun _ => ?_
        refine JL_pd rfl (det_pick_t rfl h2 rfl) ?_
        refine JL_pd rfl (det_assign rfl) ?_
        refine JL_nil ?_
        refine JE_seq ?_
        refine JC_ret ?_
        refine JE_seq_ret ?_
        refine JE_out (.inl rfl) () (results1 Try.results13 (res_tmp rfl)) ?_ (List.Perm.refl _) (fun _ _ => trivial)
        rfl
      · exact absurd h2 he
end Go.Proofs.Ytgbfjcgjcnndpaa

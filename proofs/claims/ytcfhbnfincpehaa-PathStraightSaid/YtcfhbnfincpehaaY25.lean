/- The walk of PathStraight. -/
import Derived.Test.YtcfhbnfincpehaaX22
set_option linter.unusedSimpArgs false
set_option linter.unusedVariables false
namespace Go.Proofs.Ytcfhbnfincpehaa
open Go.RowKit Go.Shelf

set_option maxRecDepth 100000 in
set_option maxHeartbeats 2000000 in
theorem PathStraight_j (l : La) (s : St) (p : Pk) (ha pa : Option Addr) (hc pc : Nat) (hh : l.hooks.length * 16 ≤ 140737488355328) : Cv Try.prog 9 [.agg #[I l.boards, I l.rows, .slice ha l.hooks.length hc, .slice pa l.patches.length pc], .agg #[I s.b, I s.d], .agg #[I p.boards.lo, I p.boards.hi, I p.dirs.lo, I p.dirs.hi]] (KLane l ha hc pa pc) (.bool true) := by
  refine Cx_of Try.func9 rfl Try.ntmps9 rfl fun w0 M0 => ?_
  refine JC_seq ?_
  refine JC_region ?_
  refine JL_step rfl rfl rfl (jo_box rfl rfl) fun b3 => ?_
  refine JL_step rfl rfl rfl (jo_box rfl rfl) fun b4 => ?_
  refine JL_step rfl rfl rfl (jo_box rfl rfl) fun b5 => ?_
  refine JL_pd rfl (det_assign rfl) ?_
  refine JL_nil ?_
  refine JE_seq ?_
  refine JC_seq ?_
  refine JC_region ?_
  refine JL_dt rfl (det_loadKA rfl Try.isAgg25 Try.sizeOf25 rfl rfl) ?_
  refine JL_step rfl rfl rfl (jo_alloc0 Try.zeroValue25 rfl) fun b7 => ?_
  refine JL_step0 rfl rfl (jo_store rfl rfl rfl (by first | (simp only [splice_norm]; done) | (simp only [splice_norm]; rfl) | rfl) Try.sizeOf25 rfl rfl) fun _ => ?_
  refine JL_nil ?_
  refine JE_seq ?_
  refine JC_seq ?_
  refine JC_region ?_
  refine JL_pd rfl (det_fieldAddr rfl fo_25_2) ?_
  refine JL_step0 rfl rfl (jo_store rfl rfl rfl (by first | (simp only [splice_norm]; done) | (simp only [splice_norm]; rfl) | rfl) Try.sizeOf22 rfl rfl) fun _ => ?_
  refine JL_nil ?_
  refine JE_seq ?_
  refine JC_seq ?_
  refine JC_seq ?_
  refine JC_region ?_
  refine JL_pd rfl (det_assign rfl) ?_
  refine JL_nil ?_
  refine JE_seq ?_
  refine JC_block ?_
  -- stop: loop
  refine JC_nil 53 2 ?_
  refine JC_loopF (γ := Nat × Value) (fun q => q.1 ≤ l.hooks.length) (fun q => [(8, I q.1)]) (fun q => [ow q.2 53 2 q.1 ((List.replicate q.1 (⟨0, 0⟩ : Rg)).flatMap encRg), bx b7 [I l.boards, I l.rows, q.2, .slice pa l.patches.length pc]]) (fun q => l.hooks.length - q.1) (0, .slice none 0 0) (by simp) (stsub_consI rfl rfl stsub_nil) (show HTake _ [ow (.slice none 0 0) 53 2 0 [], bx b7 _] _ from ht_cons (ht_cons ht_nil)) ?_
  rintro ⟨i, v⟩ hi K hK
  dsimp only [List.cons_append, List.nil_append] at hi ⊢
  refine JC_seq ?_
  refine JC_seq ?_
  refine JC_region ?_
  refine JL_pd rfl (det_move rfl) ?_
  refine JL_pd rfl (det_fieldAddr rfl fo_25_2) ?_
  refine JL_dt rfl (det_loadK rfl Try.isAgg22 rfl) ?_
  refine JL_pd rfl (det_len rfl Try.runUnderlying22) ?_
  refine JL_pd rfl (det_lss rfl rfl) ?_
  refine JL_nil ?_
  refine JE_seq ?_
  -- stop: cond
  refine JC_if rfl (fun k6 => ?_) (fun k6 => ?_)
  · have hi2 : i < l.hooks.length := by omega
    refine JC_skip ?_
    refine JE_seq ?_
    refine JC_seq ?_
    refine JC_block ?_
    refine JC_region ?_
    refine JL_pd rfl (det_fieldAddr rfl fo_25_2) ?_
    refine JL_dt rfl (det_loadK rfl Try.isAgg22 rfl) ?_
    refine JL_pd rfl (det_build rfl (bld_53)) ?_
    refine JL_step rfl rfl rfl (jo_buildSlice rfl (bsl_22_1_0 _ _)) fun b30 => ?_
    refine JL_step rfl rfl rfl (jo_appendW elW rfl rfl rfl rfl (by omega) (by omega)) fun b31 => ?_
    refine JL_pd rfl (det_fieldAddr rfl fo_25_2) ?_
    refine JL_step0 rfl rfl (jo_store rfl rfl rfl (by first | (simp only [splice_norm]; done) | (simp only [splice_norm]; rfl) | rfl) Try.sizeOf22 rfl rfl) fun _ => ?_
    refine JL_nil ?_
    refine JE_block ?_
    refine JE_seq ?_
    refine JC_region ?_
    refine JL_pd rfl (det_move rfl) ?_
    refine JL_pd rfl (det_add rfl rfl ⟨by omega, by omega⟩) ?_
    refine JL_pd rfl (det_assign rfl) ?_
    refine JL_nil ?_
    -- stop: end
    refine JE_roundF hK (i + 1, .slice (some ⟨b31.1, 0, none⟩) (i + 1) b31.2) (by simp only; omega) (by simp only; omega) (stsub_consI rfl (by simp only; omega) stsub_nil) (ht_ow rfl (by simp [List.replicate_succ', encRg]) (ht_cons ht_nil))
  · obtain rfl : i = (strL l).hooks.length := by rw [strL_len]; omega
    refine JC_slice (enc := encRg) (v := v) (strL l).hooks noFp (by rw [strL_len]; rfl) rfl ?_
    rintro av cv rfl
    refine JC_know (R' := KAnd (KLane (strL l) av cv pa pc) (KLane l ha hc pa pc)) (by intro w h; exact ⟨⟨h.1, h.2.2⟩, h.2⟩) ?_
    refine JC_exit ?_
    refine JE_seq_exit ?_
    refine JE_then_exit ?_
    refine JE_block_here ?_
    refine JE_seq ?_
    refine JC_seq ?_
    refine JC_seq ?_
    refine JC_region ?_
    refine JL_dt rfl (det_loadKA rfl Try.isAgg25 Try.sizeOf25 rfl rfl) ?_
    refine JL_step rfl rfl rfl (jo_callv rfl rfl Try.call40 rfl (lThin_j l ha pa hc pc)) fun _ => ?_
    refine JL_pd rfl (det_not rfl) ?_
    refine JL_pd rfl (det_move rfl) ?_
    -- stop: guard 3
    refine JL_join1 10 46 (.bool (!(thin l && (thin (strL l) && decide (startErr (strL l) s = 0)) && isPocket p))) (fun hj => ?_) ?_
    · refine JL_split (d0 := 36) rfl (fun q1 => ?_) (fun q1 => ?_)
      · refine JL_skip rfl rfl q1 rfl ?_
        refine JL_skip rfl rfl q1 rfl ?_
        refine JL_skip rfl rfl q1 rfl ?_
        refine JL_skip rfl rfl q1 rfl ?_
        refine JL_pd rfl (det_pick_t rfl q1 rfl) ?_
        refine JL_pd rfl (det_move rfl) ?_
        refine JL_skip rfl rfl rfl rfl ?_
        refine JL_skip rfl rfl rfl rfl ?_
        refine JL_skip rfl rfl rfl rfl ?_
        refine JL_pd rfl (det_pick_t rfl rfl rfl) ?_
        exact hj (by kernel_rfl) (stsub_consB rfl (by clear hj; first | rfl | (simp only [q1, Bool.and_true, Bool.true_and, Bool.false_and, Bool.and_false, Bool.or_true, Bool.true_or, Bool.or_false, Bool.false_or, Bool.not_true, Bool.not_false]; done) | (simp [q1]; done) | (simp at q1; done) | (simp [q1] <;> omega) | (exfalso; simp at q1; omega)) stsub_nil)
      · refine JL_guard rfl rfl q1 ?_
        refine JL_dt rfl (det_loadKA rfl Try.isAgg25 Try.sizeOf25 rfl rfl) ?_
        refine JL_guard rfl rfl q1 ?_
        refine JL_dt rfl (det_loadKA rfl Try.isAgg27 Try.sizeOf27 rfl rfl) ?_
        refine JL_guard rfl rfl q1 ?_
        refine JL_step rfl rfl rfl (jo_callv rfl rfl Try.call36 rfl (lready_j (strL l) s av pa cv pc)) fun _ => ?_
        refine JL_guard rfl rfl q1 ?_
        refine JL_pd rfl (det_not rfl) ?_
        refine JL_pd rfl (det_pick_f rfl q1 rfl) ?_
        refine JL_pd rfl (det_move rfl) ?_
        refine JL_split (d0 := 42) rfl (fun q2 => ?_) (fun q2 => ?_)
        · refine JL_skip rfl rfl q2 rfl ?_
          refine JL_skip rfl rfl q2 rfl ?_
          refine JL_skip rfl rfl q2 rfl ?_
          refine JL_pd rfl (det_pick_t rfl q2 rfl) ?_
          exact hj (by kernel_rfl) (stsub_consB rfl (by clear hj; first | rfl | (simp only [q1, q2, Bool.and_true, Bool.true_and, Bool.false_and, Bool.and_false, Bool.or_true, Bool.true_or, Bool.or_false, Bool.false_or, Bool.not_true, Bool.not_false]; done) | (simp [q1, q2]; done) | (simp at q1; done) | (simp at q2; done) | (simp [q1, q2] <;> omega) | (exfalso; simp at q1 q2; omega) | (simp [q2] at q1; done) | (simp [q1] at q2; done)) stsub_nil)
        · refine JL_guard rfl rfl q2 ?_
          refine JL_dt rfl (det_loadKA rfl Try.isAgg57 Try.sizeOf57 rfl rfl) ?_
          refine JL_guard rfl rfl q2 ?_
          refine JL_step rfl rfl rfl (jo_callv rfl rfl Try.call33 rfl (rIsPocket_j p)) fun _ => ?_
          refine JL_guard rfl rfl q2 ?_
          refine JL_pd rfl (det_not rfl) ?_
          refine JL_pd rfl (det_pick_f rfl q2 rfl) ?_
          exact hj (by kernel_rfl) (stsub_consB rfl (by clear hj; first | rfl | (simp only [q1, q2, Bool.and_true, Bool.true_and, Bool.false_and, Bool.and_false, Bool.or_true, Bool.true_or, Bool.or_false, Bool.false_or, Bool.not_true, Bool.not_false]; done) | (simp [q1, q2]; done) | (simp at q1; done) | (simp at q2; done) | (simp [q1, q2] <;> omega) | (exfalso; simp at q1 q2; omega) | (simp [q2] at q1; done) | (simp [q1] at q2; done)) stsub_nil)
    refine JL_nil ?_
    refine JE_seq ?_
    -- stop: cond
    refine JC_cond rfl (fun h1 => ?_) (fun h1 => ?_)
    · refine JC_seq ?_
      refine JC_region ?_
      refine JL_step rfl rfl rfl (jo_callv rfl rfl Try.call17 rfl (lawake_j)) fun _ => ?_
      refine JL_pd rfl (det_assign rfl) ?_
      refine JL_nil ?_
      refine JE_seq ?_
      refine JC_ret ?_
      refine JE_seq_ret ?_
      -- stop: out
      refine JE_out (.inl rfl) () (results1 Try.results9 (res_tmp rfl)) rfl (List.Perm.refl _) (fun _ _ => trivial)
    · simp only [Bool.not_eq_false', Bool.and_eq_true, decide_eq_true_eq] at h1
      obtain ⟨⟨hthin, -, he⟩, hp⟩ := h1
      obtain ⟨V, h0⟩ := valid_start he
      have hth : l.patches.length ≤ 12 ∧ l.hooks.length ≤ 6 := by simpa [thin] using hthin
      have hlen := strL_len l
      have r1 : 1 ≤ l.rows := V.r1
      have r2 : l.rows ≤ 12 := V.r2
      have b2 : l.boards ≤ 40 := V.b2
      have sb : 1 ≤ s.b ∧ s.b ≤ l.boards ∧ -5 ≤ s.d ∧ s.d ≤ 5 := of_decide_eq_true h0
      refine JC_skip ?_
      refine JE_seq ?_
      refine JC_seq ?_
      refine JC_seq ?_
      refine JC_region ?_
      refine JL_pd rfl (det_assign rfl) ?_
      refine JL_nil ?_
      refine JE_seq ?_
      refine JC_block ?_
      -- stop: loop
      have hL : ∀ (a1 a2 : Option Addr) (c1 c2 : Nat), _ := fun a1 a2 c1 c2 => lLane_j (strL l) a1 a2 c1 c2 (by omega) (show l.patches.length ≤ 1000000 by omega)
      have hmul : ∀ i : Nat, (i : Int) ≤ 12 → -60 ≤ (i : Int) * s.d ∧ (i : Int) * s.d ≤ 60 := fun i hi => by
        have h1 := Int.mul_le_mul_of_nonneg_left sb.2.2.2 (Int.natCast_nonneg i)
        have h2 := Int.mul_le_mul_of_nonneg_left sb.2.2.1 (Int.natCast_nonneg i)
        omega
      refine JC_loopF (γ := Nat) (fun i => (i : Int) ≤ l.rows) (fun i => [(9, I i)]) (fun _ => []) (fun i => l.rows.toNat - i) 0 (by omega) (stsub_consI rfl rfl stsub_nil) ht_nil ?_
      intro i hi K hK
      dsimp only [List.cons_append, List.nil_append]
      refine JC_seq ?_
      refine JC_seq ?_
      refine JC_region ?_
      refine JL_pd rfl (det_move rfl) ?_
      refine JL_pd rfl (det_fieldAddr rfl fo_25_1) ?_
      refine JL_dt rfl (det_loadK rfl Try.isAgg3 rfl) ?_
      refine JL_pd rfl (det_lss rfl rfl) ?_
      refine JL_nil ?_
      refine JE_seq ?_
      -- stop: cond
      refine JC_if rfl (fun k8 => ?_) (fun k8 => ?_)
      · have hm := hmul i (by omega)
        by_cases hon : onL l (strS s i) = true
        · have hR : ∀ (a1 a2 : Option Addr) (c1 c2 : Nat), Cr Try.prog 18 [.agg #[I l.boards, I l.rows, .slice a1 (strL l).hooks.length c1, .slice a2 l.patches.length c2], .agg #[I s.b, I s.d], I i] (KLane (strL l) a1 c1 a2 c2) (fun q : Option Addr × Nat => .tuple #[.slice q.1 1 q.2, .int .u8 0, I 0]) (fun q => KSl q.1 1 q.2 encSt [strS s i]) := fun a1 a2 c1 c2 => by
            have := Reach_jo (strL l) s i a1 a2 c1 c2 he k8
            rw [str_rowL V h0, str_rowV V h0, if_pos hon, if_pos hon] at this
            exact this
          have hI : Cv Try.prog 22 [I (s.b + i * s.d), I 1, I l.boards] KTrue (.bool true) := by
            have := rIn_j (s.b + i * s.d) 1 l.boards
            rwa [show decide (1 ≤ s.b + i * s.d ∧ s.b + i * s.d ≤ l.boards) = true from hon] at this
          refine JC_skip ?_
          refine JE_seq ?_
          refine JC_seq ?_
          refine JC_block ?_
          refine JC_seq ?_
          refine JC_draw [] (by kernel_rfl) ?_
          refine JA_dt (i := 0) rfl (by kernel_rfl) (by kernel_rfl) rfl rfl (det_loadKA rfl Try.isAgg25 Try.sizeOf25 rfl rfl) ?_
          refine JA_dt (i := 2) rfl (by kernel_rfl) (by kernel_rfl) rfl rfl (det_loadKA rfl Try.isAgg27 Try.sizeOf27 rfl rfl) ?_
          refine JA_pd (i := 4) rfl (by kernel_rfl) rfl rfl (det_move rfl) ?_
          -- stop: op  1 t56 := (call (Call (value f19) (t55) (25)))   <0>   194
          refine JA_one (i := 1) (by kernel_rfl) rfl rfl (jo_call rfl rfl Try.call19 rfl (hL av pa cv pc)) (fun _ => ⟨hsub_drop 0 rfl, fun _ h => h.2⟩) fun x56 => ?_
          refine JA_one (i := 3) (by kernel_rfl) rfl rfl (jo_callv rfl rfl Try.call20 rfl (lStart_j s)) (fun _ => ⟨hsub_refl, fun _ h => h⟩) fun _ => ?_
          -- stop: op  5 t60 := (call (Call (value f18) (t56 t58 t59) (37 39 3)))   <1 3 4 3>   194
          refine JA_one (i := 5) (by kernel_rfl) rfl rfl (jo_call rfl rfl Try.call18 rfl (hR x56.1.1 x56.2.1 x56.1.2 x56.2.2)) (fun _ => ⟨hsub_drop 0 rfl, fun _ h => h.2⟩) fun ⟨ra, rc⟩ => ?_
          refine JA_pd (i := 6) rfl (by kernel_rfl) rfl rfl (det_move rfl) ?_
          refine JA_pd (i := 7) rfl (by kernel_rfl) rfl rfl (det_extract rfl rfl) ?_
          refine JA_pd (i := 8) rfl (by kernel_rfl) rfl rfl (det_extract rfl rfl) ?_
          refine JA_pd (i := 9) rfl (by kernel_rfl) rfl rfl (det_extract rfl rfl) ?_
          refine JA_pd (i := 10) rfl (by kernel_rfl) rfl rfl (det_assign rfl) ?_
          refine JA_pd (i := 11) rfl (by kernel_rfl) rfl rfl (det_assign rfl) ?_
          refine JA_pd (i := 12) rfl (by kernel_rfl) rfl rfl (det_assign rfl) ?_
          refine JA_done (by kernel_rfl) ?_
          refine JE_seq ?_
          refine JC_seq ?_
          refine JC_region ?_
          refine JL_pd rfl (det_fieldAddr rfl fo_27_0) ?_
          refine JL_dt rfl (det_loadK rfl Try.isAgg3 rfl) ?_
          refine JL_pd rfl (det_move rfl) ?_
          refine JL_pd rfl (det_fieldAddr rfl fo_27_1) ?_
          refine JL_dt rfl (det_loadK rfl Try.isAgg3 rfl) ?_
          refine JL_pd rfl (det_mul rfl rfl ⟨by omega, by omega⟩) ?_
          refine JL_pd rfl (det_add rfl rfl ⟨by omega, by omega⟩) ?_
          refine JL_pd rfl (det_fieldAddr rfl fo_25_0) ?_
          refine JL_dt rfl (det_loadK rfl Try.isAgg3 rfl) ?_
          -- stop: op  9 t73 := (call (Call (value f22) (t70 1 t72) (3 3 3)))   <6 8>   195
          refine JL_step rfl rfl rfl (jo_callv rfl rfl Try.call22 rfl (hI)) fun _ => ?_
          refine JL_pd rfl (det_assign rfl) ?_
          refine JL_nil ?_
          refine JE_seq ?_
          refine JC_seq ?_
          refine JC_draw [] (by kernel_rfl) ?_
          refine JA_pd (i := 0) rfl (by kernel_rfl) rfl rfl (det_move rfl) ?_
          refine JA_pd (i := 1) rfl (by kernel_rfl) rfl rfl (det_neq rfl rfl) ?_
          refine JA_pd (i := 2) rfl (by kernel_rfl) rfl rfl (det_move rfl) ?_
          -- stop: guard 2
          refine JA_is (d0 := 76) false rfl (by rfl) (fun g1 => ?_)
          refine JA_gpd (i := 3) rfl (by kernel_rfl) rfl rfl rfl rfl g1 (det_move rfl) ?_
          refine JA_gpd (i := 4) rfl (by kernel_rfl) rfl rfl rfl rfl g1 (det_move rfl) ?_
          -- stop: guard 4
          refine JA_is (d0 := 78) true rfl (by rfl) (fun g2 => ?_)
          refine JA_gpd (i := 5) rfl (by kernel_rfl) rfl rfl rfl rfl g2 (det_move rfl) ?_
          refine JA_gpd (i := 6) rfl (by kernel_rfl) rfl rfl rfl rfl g2 (det_neq rfl rfl) ?_
          refine JA_gpd (i := 7) rfl (by kernel_rfl) rfl rfl rfl rfl g2 (det_move rfl) ?_
          -- stop: guard 7
          refine JA_is (d0 := 81) false rfl (by rfl) (fun g3 => ?_)
          refine JA_gpd (i := 8) rfl (by kernel_rfl) rfl rfl rfl rfl g3 (det_move rfl) ?_
          refine JA_gpd (i := 9) rfl (by kernel_rfl) rfl rfl rfl rfl g3 (det_len rfl Try.runUnderlying30) ?_
          refine JA_gpd (i := 10) rfl (by kernel_rfl) rfl rfl rfl rfl g3 (det_neq rfl rfl) ?_
          refine JA_gpd (i := 11) rfl (by kernel_rfl) rfl rfl rfl rfl g2 (det_pick_f rfl g3 rfl) ?_
          refine JA_gpd (i := 12) rfl (by kernel_rfl) rfl rfl rfl rfl g2 (det_move rfl) ?_
          -- stop: guard 12
          refine JA_is (d0 := 86) false rfl (by rfl) (fun g4 => ?_)
          refine JA_gpd (i := 13) rfl (by kernel_rfl) rfl rfl rfl rfl g4 (det_move rfl) ?_
          refine JA_gdt (i := 14) rfl (by kernel_rfl) (by kernel_rfl) rfl rfl rfl rfl g4 (det_indexAddr (i := 0) rfl rfl (by first | rfl | omega) (by first | assumption | omega | decide) Try.runUnderlying30 Try.sizeOf39) ?_
          refine JA_gdt (i := 15) rfl (by kernel_rfl) (by kernel_rfl) rfl rfl rfl rfl g4 (det_loadEA (xs := [strS s i]) (n := 1) (enc := encSt) rfl (by decide) Try.isAgg39 Try.sizeOf39 rfl rfl rfl) ?_
          refine JA_gpd (i := 16) rfl (by kernel_rfl) rfl rfl rfl rfl g4 (det_fieldAddr rfl fo_27_0) ?_
          refine JA_gdt (i := 17) rfl (by kernel_rfl) (by kernel_rfl) rfl rfl rfl rfl g4 (det_loadK rfl Try.isAgg3 rfl) ?_
          refine JA_gpd (i := 18) rfl (by kernel_rfl) rfl rfl rfl rfl g4 (det_move rfl) ?_
          refine JA_gpd (i := 19) rfl (by kernel_rfl) rfl rfl rfl rfl g4 (det_fieldAddr rfl fo_27_1) ?_
          refine JA_gdt (i := 20) rfl (by kernel_rfl) (by kernel_rfl) rfl rfl rfl rfl g4 (det_loadK rfl Try.isAgg3 rfl) ?_
          refine JA_gpd (i := 21) rfl (by kernel_rfl) rfl rfl rfl rfl g4 (det_mul rfl rfl ⟨by omega, by omega⟩) ?_
          refine JA_gpd (i := 22) rfl (by kernel_rfl) rfl rfl rfl rfl g4 (det_add rfl rfl ⟨by omega, by omega⟩) ?_
          refine JA_gpd (i := 23) rfl (by kernel_rfl) rfl rfl rfl rfl g4 (det_fieldAddr rfl fo_27_1) ?_
          refine JA_gdt (i := 24) rfl (by kernel_rfl) (by kernel_rfl) rfl rfl rfl rfl g4 (det_loadK rfl Try.isAgg3 rfl) ?_
          refine JA_gpd (i := 25) rfl (by kernel_rfl) rfl rfl rfl rfl g4 (det_build rfl (bld_39_0_1 _ _)) ?_
          refine JA_gpd (i := 26) rfl (by kernel_rfl) rfl rfl rfl rfl g4 (det_neqA rfl rfl egt_39 (eqa_39 _ _ _ _)) ?_
          refine JA_gpd (i := 27) rfl (by kernel_rfl) rfl rfl rfl rfl g2 (det_pick_f rfl g4 rfl) ?_
          refine JA_gpd (i := 28) rfl (by kernel_rfl) rfl rfl rfl rfl g1 (det_pick_t rfl g2 rfl) ?_
          refine JA_pd (i := 29) rfl (by kernel_rfl) rfl rfl (det_pick_f rfl g1 rfl) ?_
          refine JA_pd (i := 30) rfl (by kernel_rfl) rfl rfl (det_move rfl) ?_
          -- stop: guard 30
          refine JA_is (d0 := 104) false rfl (by simp [strS]) (fun g5 => ?_)
          refine JA_gpd (i := 31) rfl (by kernel_rfl) rfl rfl rfl rfl g5 (det_move rfl) ?_
          refine JA_gpd (i := 32) rfl (by kernel_rfl) rfl rfl rfl rfl g5 (det_not rfl) ?_
          refine JA_gpd (i := 33) rfl (by kernel_rfl) rfl rfl rfl rfl g5 (det_move rfl) ?_
          -- stop: guard 33
          refine JA_is (d0 := 107) false rfl (by rfl) (fun g6 => ?_)
          refine JA_skip (i := 34) rfl (by kernel_rfl) rfl rfl rfl rfl g6 ?_
          refine JA_skip (i := 35) rfl (by kernel_rfl) rfl rfl rfl rfl g6 ?_
          refine JA_skip (i := 36) rfl (by kernel_rfl) rfl rfl rfl rfl g6 ?_
          refine JA_skipU (i := 37) rfl (by kernel_rfl) rfl rfl rfl rfl ?_
          refine JA_skipU (i := 38) rfl (by kernel_rfl) rfl rfl rfl rfl ?_
          refine JA_skipU (i := 39) rfl (by kernel_rfl) rfl rfl rfl rfl ?_
          refine JA_skip (i := 40) rfl (by kernel_rfl) rfl rfl rfl rfl g6 ?_
          refine JA_gpd (i := 41) rfl (by kernel_rfl) rfl rfl rfl rfl g5 (det_pick_f rfl g6 rfl) ?_
          refine JA_pd (i := 42) rfl (by kernel_rfl) rfl rfl (det_pick_f rfl g5 rfl) ?_
          refine JA_done (by kernel_rfl) ?_
          refine JE_seq ?_
          refine JC_condF rfl rfl ?_
          refine JC_skip ?_
          refine JE_block ?_
          refine JE_seq ?_
          refine JC_region ?_
          refine JL_pd rfl (det_move rfl) ?_
          refine JL_pd rfl (det_add rfl rfl ⟨by omega, by omega⟩) ?_
          refine JL_pd rfl (det_assign rfl) ?_
          refine JL_nil ?_
          -- stop: end
          refine JE_roundF hK (i + 1) (by omega) (by omega) (stsub_consI rfl (by omega) stsub_nil) ht_nil
        · have hR : ∀ (a1 a2 : Option Addr) (c1 c2 : Nat), Cr Try.prog 18 [.agg #[I l.boards, I l.rows, .slice a1 (strL l).hooks.length c1, .slice a2 l.patches.length c2], .agg #[I s.b, I s.d], I i] (KLane (strL l) a1 c1 a2 c2) (fun q : Option Addr × Nat => .tuple #[.slice q.1 0 q.2, .int .u8 2, I 0]) (fun q => KSl q.1 0 q.2 encSt []) := fun a1 a2 c1 c2 => by
            have := Reach_jo (strL l) s i a1 a2 c1 c2 he k8
            rw [str_rowL V h0, str_rowV V h0, if_neg hon, if_neg hon] at this
            exact this
          have hI : Cv Try.prog 22 [I (s.b + i * s.d), I 1, I l.boards] KTrue (.bool false) := by
            have := rIn_j (s.b + i * s.d) 1 l.boards
            have hon : onL l (strS s i) = false := by simpa using hon
            rwa [show decide (1 ≤ s.b + i * s.d ∧ s.b + i * s.d ≤ l.boards) = false from hon] at this
          refine JC_skip ?_
          refine JE_seq ?_
          refine JC_seq ?_
          refine JC_block ?_
          refine JC_seq ?_
          refine JC_draw [] (by kernel_rfl) ?_
          refine JA_dt (i := 0) rfl (by kernel_rfl) (by kernel_rfl) rfl rfl (det_loadKA rfl Try.isAgg25 Try.sizeOf25 rfl rfl) ?_
          refine JA_dt (i := 2) rfl (by kernel_rfl) (by kernel_rfl) rfl rfl (det_loadKA rfl Try.isAgg27 Try.sizeOf27 rfl rfl) ?_
          refine JA_pd (i := 4) rfl (by kernel_rfl) rfl rfl (det_move rfl) ?_
          -- stop: op  1 t56 := (call (Call (value f19) (t55) (25)))   <0>   194
          refine JA_one (i := 1) (by kernel_rfl) rfl rfl (jo_call rfl rfl Try.call19 rfl (hL av pa cv pc)) (fun _ => ⟨hsub_drop 0 rfl, fun _ h => h.2⟩) fun x56 => ?_
          refine JA_one (i := 3) (by kernel_rfl) rfl rfl (jo_callv rfl rfl Try.call20 rfl (lStart_j s)) (fun _ => ⟨hsub_refl, fun _ h => h⟩) fun _ => ?_
          -- stop: op  5 t60 := (call (Call (value f18) (t56 t58 t59) (37 39 3)))   <1 3 4 3>   194
          refine JA_one (i := 5) (by kernel_rfl) rfl rfl (jo_call rfl rfl Try.call18 rfl (hR x56.1.1 x56.2.1 x56.1.2 x56.2.2)) (fun _ => ⟨hsub_drop 0 rfl, fun _ h => h.2⟩) fun ⟨ra, rc⟩ => ?_
          refine JA_pd (i := 6) rfl (by kernel_rfl) rfl rfl (det_move rfl) ?_
          refine JA_pd (i := 7) rfl (by kernel_rfl) rfl rfl (det_extract rfl rfl) ?_
          refine JA_pd (i := 8) rfl (by kernel_rfl) rfl rfl (det_extract rfl rfl) ?_
          refine JA_pd (i := 9) rfl (by kernel_rfl) rfl rfl (det_extract rfl rfl) ?_
          refine JA_pd (i := 10) rfl (by kernel_rfl) rfl rfl (det_assign rfl) ?_
          refine JA_pd (i := 11) rfl (by kernel_rfl) rfl rfl (det_assign rfl) ?_
          refine JA_pd (i := 12) rfl (by kernel_rfl) rfl rfl (det_assign rfl) ?_
          refine JA_done (by kernel_rfl) ?_
          refine JE_seq ?_
          refine JC_seq ?_
          refine JC_region ?_
          refine JL_pd rfl (det_fieldAddr rfl fo_27_0) ?_
          refine JL_dt rfl (det_loadK rfl Try.isAgg3 rfl) ?_
          refine JL_pd rfl (det_move rfl) ?_
          refine JL_pd rfl (det_fieldAddr rfl fo_27_1) ?_
          refine JL_dt rfl (det_loadK rfl Try.isAgg3 rfl) ?_
          refine JL_pd rfl (det_mul rfl rfl ⟨by omega, by omega⟩) ?_
          refine JL_pd rfl (det_add rfl rfl ⟨by omega, by omega⟩) ?_
          refine JL_pd rfl (det_fieldAddr rfl fo_25_0) ?_
          refine JL_dt rfl (det_loadK rfl Try.isAgg3 rfl) ?_
          -- stop: op  9 t73 := (call (Call (value f22) (t70 1 t72) (3 3 3)))   <6 8>   195
          refine JL_step rfl rfl rfl (jo_callv rfl rfl Try.call22 rfl (hI)) fun _ => ?_
          refine JL_pd rfl (det_assign rfl) ?_
          refine JL_nil ?_
          refine JE_seq ?_
          refine JC_seq ?_
          refine JC_draw [] (by kernel_rfl) ?_
          refine JA_pd (i := 0) rfl (by kernel_rfl) rfl rfl (det_move rfl) ?_
          refine JA_pd (i := 1) rfl (by kernel_rfl) rfl rfl (det_neq rfl rfl) ?_
          refine JA_pd (i := 2) rfl (by kernel_rfl) rfl rfl (det_move rfl) ?_
          -- stop: guard 2
          refine JA_is (d0 := 76) false rfl (by rfl) (fun g1 => ?_)
          refine JA_gpd (i := 3) rfl (by kernel_rfl) rfl rfl rfl rfl g1 (det_move rfl) ?_
          refine JA_gpd (i := 4) rfl (by kernel_rfl) rfl rfl rfl rfl g1 (det_move rfl) ?_
          -- stop: guard 4
          refine JA_is (d0 := 78) false rfl (by rfl) (fun g2 => ?_)
          refine JA_skip (i := 5) rfl (by kernel_rfl) rfl rfl rfl rfl g2 ?_
          refine JA_skip (i := 6) rfl (by kernel_rfl) rfl rfl rfl rfl g2 ?_
          refine JA_skip (i := 7) rfl (by kernel_rfl) rfl rfl rfl rfl g2 ?_
          refine JA_skipU (i := 8) rfl (by kernel_rfl) rfl rfl rfl rfl ?_
          refine JA_skipU (i := 9) rfl (by kernel_rfl) rfl rfl rfl rfl ?_
          refine JA_skipU (i := 10) rfl (by kernel_rfl) rfl rfl rfl rfl ?_
          refine JA_skip (i := 11) rfl (by kernel_rfl) rfl rfl rfl rfl g2 ?_
          refine JA_skip (i := 12) rfl (by kernel_rfl) rfl rfl rfl rfl g2 ?_
          refine JA_skipU (i := 13) rfl (by kernel_rfl) rfl rfl rfl rfl ?_
          refine JA_skipU (i := 14) rfl (by kernel_rfl) rfl rfl rfl rfl ?_
          refine JA_skipU (i := 15) rfl (by kernel_rfl) rfl rfl rfl rfl ?_
          refine JA_skipU (i := 16) rfl (by kernel_rfl) rfl rfl rfl rfl ?_
          refine JA_skipU (i := 17) rfl (by kernel_rfl) rfl rfl rfl rfl ?_
          refine JA_skipU (i := 18) rfl (by kernel_rfl) rfl rfl rfl rfl ?_
          refine JA_skipU (i := 19) rfl (by kernel_rfl) rfl rfl rfl rfl ?_
          refine JA_skipU (i := 20) rfl (by kernel_rfl) rfl rfl rfl rfl ?_
          refine JA_skipU (i := 21) rfl (by kernel_rfl) rfl rfl rfl rfl ?_
          refine JA_skipU (i := 22) rfl (by kernel_rfl) rfl rfl rfl rfl ?_
          refine JA_skipU (i := 23) rfl (by kernel_rfl) rfl rfl rfl rfl ?_
          refine JA_skipU (i := 24) rfl (by kernel_rfl) rfl rfl rfl rfl ?_
          refine JA_skipU (i := 25) rfl (by kernel_rfl) rfl rfl rfl rfl ?_
          refine JA_skipU (i := 26) rfl (by kernel_rfl) rfl rfl rfl rfl ?_
          refine JA_skip (i := 27) rfl (by kernel_rfl) rfl rfl rfl rfl g2 ?_
          refine JA_gpd (i := 28) rfl (by kernel_rfl) rfl rfl rfl rfl g1 (det_pick_f rfl g2 rfl) ?_
          refine JA_pd (i := 29) rfl (by kernel_rfl) rfl rfl (det_pick_f rfl g1 rfl) ?_
          refine JA_pd (i := 30) rfl (by kernel_rfl) rfl rfl (det_move rfl) ?_
          refine JA_gpd (i := 31) rfl (by kernel_rfl) rfl rfl rfl rfl rfl (det_move rfl) ?_
          refine JA_gpd (i := 32) rfl (by kernel_rfl) rfl rfl rfl rfl rfl (det_not rfl) ?_
          refine JA_gpd (i := 33) rfl (by kernel_rfl) rfl rfl rfl rfl rfl (det_move rfl) ?_
          -- stop: guard 33
          refine JA_is (d0 := 107) true rfl (by rfl) (fun g6 => ?_)
          refine JA_gpd (i := 34) rfl (by kernel_rfl) rfl rfl rfl rfl g6 (det_move rfl) ?_
          refine JA_gpd (i := 35) rfl (by kernel_rfl) rfl rfl rfl rfl g6 (det_neq rfl rfl) ?_
          refine JA_gpd (i := 36) rfl (by kernel_rfl) rfl rfl rfl rfl g6 (det_move rfl) ?_
          -- stop: guard 36
          refine JA_is (d0 := 110) false rfl (by rfl) (fun g7 => ?_)
          refine JA_gpd (i := 37) rfl (by kernel_rfl) rfl rfl rfl rfl g7 (det_move rfl) ?_
          refine JA_gpd (i := 38) rfl (by kernel_rfl) rfl rfl rfl rfl g7 (det_len rfl Try.runUnderlying30) ?_
          refine JA_gpd (i := 39) rfl (by kernel_rfl) rfl rfl rfl rfl g7 (det_neq rfl rfl) ?_
          refine JA_gpd (i := 40) rfl (by kernel_rfl) rfl rfl rfl rfl g6 (det_pick_f rfl g7 rfl) ?_
          refine JA_gpd (i := 41) rfl (by kernel_rfl) rfl rfl rfl rfl rfl (det_pick_t rfl g6 rfl) ?_
          refine JA_pd (i := 42) rfl (by kernel_rfl) rfl rfl (det_pick_f rfl rfl rfl) ?_
          refine JA_done (by kernel_rfl) ?_
          refine JE_seq ?_
          -- stop: cond
          refine JC_cond rfl (fun h9 => ?_) (fun h9 => ?_)
          · cases h9
          · refine JC_skip ?_
            refine JE_block ?_
            refine JE_seq ?_
            refine JC_region ?_
            refine JL_pd rfl (det_move rfl) ?_
            refine JL_pd rfl (det_add rfl rfl ⟨by omega, by omega⟩) ?_
            refine JL_pd rfl (det_assign rfl) ?_
            refine JL_nil ?_
            -- stop: end
            refine JE_roundF hK (i + 1) (by omega) (by omega) (stsub_consI rfl (by omega) stsub_nil) ht_nil
      · have hm := hmul (nR l) (by unfold nR; omega)
        have hn : ((nR l : Nat) : Int) = l.rows - 1 := by unfold nR; omega
        rw [hn] at hm
        have hH := fun (a1 a2 : Option Addr) (c1 c2 : Nat) => Hits_jo (strL l) s p a1 a2 c1 c2 (show aimErr (strL l) s p = 0 by simp [aimErr, he, hp])
        rw [str_hits p h0] at hH
        by_cases hx : hitsP p (onL l (strS s (nR l))) (strS s (nR l)) = true
        · rw [if_pos hx] at hH
          have hx2 := hx
          simp only [hitsP, Bool.and_eq_true] at hx2
          obtain ⟨⟨hx1, hx2⟩, hx3⟩ := hx2
          have hx1 := of_decide_eq_true (show decide (1 ≤ s.b + (nR l : Int) * s.d ∧ s.b + (nR l : Int) * s.d ≤ l.boards) = true from hx1)
          have hx2 := of_decide_eq_true (show decide (p.boards.lo ≤ s.b + (nR l : Int) * s.d ∧ s.b + (nR l : Int) * s.d ≤ p.boards.hi) = true from hx2)
          have hx3 := of_decide_eq_true (show decide (p.dirs.lo ≤ s.d ∧ s.d ≤ p.dirs.hi) = true from hx3)
          rw [hn] at hx1 hx2
          refine JC_exit ?_
          refine JE_seq_exit ?_
          refine JE_then_exit ?_
          refine JE_block_here ?_
          refine JE_seq ?_
          refine JC_seq ?_
          refine JC_draw [] (by kernel_rfl) ?_
          refine JA_dt (i := 0) rfl (by kernel_rfl) (by kernel_rfl) rfl rfl (det_loadKA rfl Try.isAgg25 Try.sizeOf25 rfl rfl) ?_
          refine JA_dt (i := 2) rfl (by kernel_rfl) (by kernel_rfl) rfl rfl (det_loadKA rfl Try.isAgg27 Try.sizeOf27 rfl rfl) ?_
          refine JA_dt (i := 4) rfl (by kernel_rfl) (by kernel_rfl) rfl rfl (det_loadKA rfl Try.isAgg57 Try.sizeOf57 rfl rfl) ?_
          -- stop: op  1 t119 := (call (Call (value f19) (t118) (25)))   <0>   200
          refine JA_one (i := 1) (by kernel_rfl) rfl rfl (jo_call rfl rfl Try.call19 rfl (hL av pa cv pc)) (fun _ => ⟨hsub_drop 0 rfl, fun _ h => h.2⟩) fun x119 => ?_
          refine JA_one (i := 3) (by kernel_rfl) rfl rfl (jo_callv rfl rfl Try.call20 rfl (lStart_j s)) (fun _ => ⟨hsub_refl, fun _ h => h⟩) fun _ => ?_
          refine JA_one (i := 5) (by kernel_rfl) rfl rfl (jo_callv rfl rfl Try.call30 rfl (lPocket_j p)) (fun _ => ⟨hsub_refl, fun _ h => h⟩) fun _ => ?_
          -- stop: op  6 t124 := (call (Call (value f45) (t119 t121 t123) (37 39 62)))   <1 3 5 5>   200
          refine JA_one (i := 6) (by kernel_rfl) rfl rfl (jo_callv rfl rfl Try.call45 rfl (hH x119.1.1 x119.2.1 x119.1.2 x119.2.2)) (fun _ => ⟨hsub_refl, fun _ h => h⟩) fun _ => ?_
          refine JA_pd (i := 7) rfl (by kernel_rfl) rfl rfl (det_move rfl) ?_
          refine JA_pd (i := 8) rfl (by kernel_rfl) rfl rfl (det_extract rfl rfl) ?_
          refine JA_pd (i := 9) rfl (by kernel_rfl) rfl rfl (det_extract rfl rfl) ?_
          refine JA_pd (i := 10) rfl (by kernel_rfl) rfl rfl (det_assign rfl) ?_
          refine JA_pd (i := 11) rfl (by kernel_rfl) rfl rfl (det_assign rfl) ?_
          refine JA_done (by kernel_rfl) ?_
          refine JE_seq ?_
          refine JC_seq ?_
          refine JC_region ?_
          refine JL_pd rfl (det_fieldAddr rfl fo_27_0) ?_
          refine JL_dt rfl (det_loadK rfl Try.isAgg3 rfl) ?_
          refine JL_pd rfl (det_fieldAddr rfl fo_25_1) ?_
          refine JL_dt rfl (det_loadK rfl Try.isAgg3 rfl) ?_
          refine JL_pd rfl (det_sub rfl rfl ⟨by omega, by omega⟩) ?_
          refine JL_pd rfl (det_fieldAddr rfl fo_27_1) ?_
          refine JL_dt rfl (det_loadK rfl Try.isAgg3 rfl) ?_
          refine JL_pd rfl (det_mul rfl rfl ⟨by omega, by omega⟩) ?_
          refine JL_pd rfl (det_add rfl rfl ⟨by omega, by omega⟩) ?_
          refine JL_pd rfl (det_assign rfl) ?_
          refine JL_nil ?_
          refine JE_seq ?_
          refine JC_seq ?_
          refine JC_region ?_
          refine JL_pd rfl (det_move rfl) ?_
          refine JL_pd rfl (det_fieldAddr rfl fo_25_0) ?_
          refine JL_dt rfl (det_loadK rfl Try.isAgg3 rfl) ?_
          -- stop: op  3 t139 := (call (Call (value f22) (t136 1 t138) (3 3 3)))   <0 2>   202
          refine JL_step rfl rfl rfl (jo_callv rfl rfl Try.call22 rfl (rIn_j _ _ _)) fun _ => ?_
          refine JL_pd rfl (det_move rfl) ?_
          -- stop: guard 4
          refine JL_is (d0 := 140) true rfl (by exact decide_eq_true hx1) (fun g1 => ?_)
          refine JL_guard rfl rfl g1 ?_
          refine JL_pd rfl (det_move rfl) ?_
          refine JL_guard rfl rfl g1 ?_
          refine JL_pd rfl (det_fieldAddr rfl fo_57_0) ?_
          refine JL_guard rfl rfl g1 ?_
          refine JL_pd rfl (det_fieldAddr rfl fo_53_0) ?_
          refine JL_guard rfl rfl g1 ?_
          refine JL_dt rfl (det_loadK rfl Try.isAgg3 rfl) ?_
          refine JL_guard rfl rfl g1 ?_
          refine JL_pd rfl (det_fieldAddr rfl fo_57_0) ?_
          refine JL_guard rfl rfl g1 ?_
          refine JL_pd rfl (det_fieldAddr rfl fo_53_1) ?_
          refine JL_guard rfl rfl g1 ?_
          refine JL_dt rfl (det_loadK rfl Try.isAgg3 rfl) ?_
          refine JL_guard rfl rfl g1 ?_
          refine JL_step rfl rfl rfl (jo_callv rfl rfl Try.call22 rfl (rIn_j _ _ _)) fun _ => ?_
          refine JL_pd rfl (det_pick_t rfl g1 rfl) ?_
          refine JL_pd rfl (det_move rfl) ?_
          -- stop: guard 14
          refine JL_is (d0 := 150) true rfl (by exact decide_eq_true hx2) (fun g2 => ?_)
          refine JL_guard rfl rfl g2 ?_
          refine JL_pd rfl (det_fieldAddr rfl fo_27_1) ?_
          refine JL_guard rfl rfl g2 ?_
          refine JL_dt rfl (det_loadK rfl Try.isAgg3 rfl) ?_
          refine JL_guard rfl rfl g2 ?_
          refine JL_pd rfl (det_fieldAddr rfl fo_57_1) ?_
          refine JL_guard rfl rfl g2 ?_
          refine JL_pd rfl (det_fieldAddr rfl fo_53_0) ?_
          refine JL_guard rfl rfl g2 ?_
          refine JL_dt rfl (det_loadK rfl Try.isAgg3 rfl) ?_
          refine JL_guard rfl rfl g2 ?_
          refine JL_pd rfl (det_fieldAddr rfl fo_57_1) ?_
          refine JL_guard rfl rfl g2 ?_
          refine JL_pd rfl (det_fieldAddr rfl fo_53_1) ?_
          refine JL_guard rfl rfl g2 ?_
          refine JL_dt rfl (det_loadK rfl Try.isAgg3 rfl) ?_
          refine JL_guard rfl rfl g2 ?_
          refine JL_step rfl rfl rfl (jo_callv rfl rfl Try.call22 rfl (rIn_j _ _ _)) fun _ => ?_
          refine JL_pd rfl (det_pick_t rfl g2 rfl) ?_
          refine JL_pd rfl (det_assign rfl) ?_
          refine JL_nil ?_
          refine JE_seq ?_
          refine JC_seq ?_
          refine JC_region ?_
          refine JL_pd rfl (det_move rfl) ?_
          refine JL_pd rfl (det_eql rfl rfl) ?_
          refine JL_pd rfl (det_move rfl) ?_
          -- stop: guard 2
          refine JL_is (d0 := 163) true rfl (by rfl) (fun g3 => ?_)
          refine JL_guard rfl rfl g3 ?_
          refine JL_pd rfl (det_move rfl) ?_
          refine JL_guard rfl rfl g3 ?_
          refine JL_pd rfl (det_move rfl) ?_
          -- stop: guard 4
          refine JL_is (d0 := 165) true rfl (by exact decide_eq_true hx3) (fun g4 => ?_)
          refine JL_guard rfl rfl g4 ?_
          refine JL_pd rfl (det_move rfl) ?_
          refine JL_guard rfl rfl g4 ?_
          refine JL_pd rfl (det_eql rfl rfl) ?_
          refine JL_guard rfl rfl g3 ?_
          refine JL_pd rfl (det_pick_t rfl g4 rfl) ?_
          refine JL_guard rfl rfl g3 ?_
          refine JL_pd rfl (det_move rfl) ?_
          -- stop: guard 8
          refine JL_is (d0 := 169) true rfl (by rfl) (fun g5 => ?_)
          refine JL_skip rfl rfl g5 rfl ?_
          refine JL_skip rfl rfl g5 rfl ?_
          refine JL_skip rfl rfl g5 rfl ?_
          refine JL_skipU rfl rfl rfl ?_
          refine JL_skipU rfl rfl rfl ?_
          refine JL_skip rfl rfl g5 rfl ?_
          refine JL_guard rfl rfl g3 ?_
          refine JL_pd rfl (det_pick_t rfl g5 rfl) ?_
          refine JL_pd rfl (det_pick_t rfl g3 rfl) ?_
          refine JL_pd rfl (det_move rfl) ?_
          refine JL_guard rfl rfl rfl ?_
          refine JL_step rfl rfl rfl (jo_callv rfl rfl Try.call17 rfl (lawake_j)) fun _ => ?_
          refine JL_pd rfl (det_pick_t rfl rfl rfl) ?_
          refine JL_pd rfl (det_assign rfl) ?_
          refine JL_nil ?_
          refine JE_seq ?_
          refine JC_ret ?_
          -- stop: out
          refine JE_out (.inl rfl) () (results1 Try.results9 (res_tmp rfl)) rfl (List.Perm.refl _) (fun _ _ => trivial)
        · have hx4 : decide (1 ≤ s.b + (l.rows - 1) * s.d ∧ s.b + (l.rows - 1) * s.d ≤ l.boards) = true → decide (p.boards.lo ≤ s.b + (l.rows - 1) * s.d ∧ s.b + (l.rows - 1) * s.d ≤ p.boards.hi) = true → decide (p.dirs.lo ≤ s.d ∧ s.d ≤ p.dirs.hi) = false := fun h1 h2 => by
            cases h3 : decide (p.dirs.lo ≤ s.d ∧ s.d ≤ p.dirs.hi)
            · rfl
            · rw [← hn] at h1 h2
              exact absurd (by simp only [hitsP, Bool.and_eq_true]; exact ⟨⟨h1, h2⟩, h3⟩) hx
          rw [if_neg hx] at hH
          refine JC_exit ?_
          refine JE_seq_exit ?_
          refine JE_then_exit ?_
          refine JE_block_here ?_
          refine JE_seq ?_
          refine JC_seq ?_
          refine JC_draw [] (by kernel_rfl) ?_
          refine JA_dt (i := 0) rfl (by kernel_rfl) (by kernel_rfl) rfl rfl (det_loadKA rfl Try.isAgg25 Try.sizeOf25 rfl rfl) ?_
          refine JA_dt (i := 2) rfl (by kernel_rfl) (by kernel_rfl) rfl rfl (det_loadKA rfl Try.isAgg27 Try.sizeOf27 rfl rfl) ?_
          refine JA_dt (i := 4) rfl (by kernel_rfl) (by kernel_rfl) rfl rfl (det_loadKA rfl Try.isAgg57 Try.sizeOf57 rfl rfl) ?_
          -- stop: op  1 t119 := (call (Call (value f19) (t118) (25)))   <0>   200
          refine JA_one (i := 1) (by kernel_rfl) rfl rfl (jo_call rfl rfl Try.call19 rfl (hL av pa cv pc)) (fun _ => ⟨hsub_drop 0 rfl, fun _ h => h.2⟩) fun x119 => ?_
          refine JA_one (i := 3) (by kernel_rfl) rfl rfl (jo_callv rfl rfl Try.call20 rfl (lStart_j s)) (fun _ => ⟨hsub_refl, fun _ h => h⟩) fun _ => ?_
          refine JA_one (i := 5) (by kernel_rfl) rfl rfl (jo_callv rfl rfl Try.call30 rfl (lPocket_j p)) (fun _ => ⟨hsub_refl, fun _ h => h⟩) fun _ => ?_
          -- stop: op  6 t124 := (call (Call (value f45) (t119 t121 t123) (37 39 62)))   <1 3 5 5>   200
          refine JA_one (i := 6) (by kernel_rfl) rfl rfl (jo_callv rfl rfl Try.call45 rfl (hH x119.1.1 x119.2.1 x119.1.2 x119.2.2)) (fun _ => ⟨hsub_refl, fun _ h => h⟩) fun _ => ?_
          refine JA_pd (i := 7) rfl (by kernel_rfl) rfl rfl (det_move rfl) ?_
          refine JA_pd (i := 8) rfl (by kernel_rfl) rfl rfl (det_extract rfl rfl) ?_
          refine JA_pd (i := 9) rfl (by kernel_rfl) rfl rfl (det_extract rfl rfl) ?_
          refine JA_pd (i := 10) rfl (by kernel_rfl) rfl rfl (det_assign rfl) ?_
          refine JA_pd (i := 11) rfl (by kernel_rfl) rfl rfl (det_assign rfl) ?_
          refine JA_done (by kernel_rfl) ?_
          refine JE_seq ?_
          refine JC_seq ?_
          refine JC_region ?_
          refine JL_pd rfl (det_fieldAddr rfl fo_27_0) ?_
          refine JL_dt rfl (det_loadK rfl Try.isAgg3 rfl) ?_
          refine JL_pd rfl (det_fieldAddr rfl fo_25_1) ?_
          refine JL_dt rfl (det_loadK rfl Try.isAgg3 rfl) ?_
          refine JL_pd rfl (det_sub rfl rfl ⟨by omega, by omega⟩) ?_
          refine JL_pd rfl (det_fieldAddr rfl fo_27_1) ?_
          refine JL_dt rfl (det_loadK rfl Try.isAgg3 rfl) ?_
          refine JL_pd rfl (det_mul rfl rfl ⟨by omega, by omega⟩) ?_
          refine JL_pd rfl (det_add rfl rfl ⟨by omega, by omega⟩) ?_
          refine JL_pd rfl (det_assign rfl) ?_
          refine JL_nil ?_
          refine JE_seq ?_
          refine JC_seq ?_
          refine JC_region ?_
          refine JL_pd rfl (det_move rfl) ?_
          refine JL_pd rfl (det_fieldAddr rfl fo_25_0) ?_
          refine JL_dt rfl (det_loadK rfl Try.isAgg3 rfl) ?_
          -- stop: op  3 t139 := (call (Call (value f22) (t136 1 t138) (3 3 3)))   <0 2>   202
          refine JL_step rfl rfl rfl (jo_callv rfl rfl Try.call22 rfl (rIn_j _ _ _)) fun _ => ?_
          refine JL_pd rfl (det_move rfl) ?_
          -- stop: guard 4
          refine JL_join1 21 17 (.bool false) (fun hj => ?_) ?_
          · refine JL_split (d0 := 140) rfl (fun q3 => ?_) (fun q3 => ?_)
            · refine JL_guard rfl rfl q3 ?_
              refine JL_pd rfl (det_move rfl) ?_
              refine JL_guard rfl rfl q3 ?_
              refine JL_pd rfl (det_fieldAddr rfl fo_57_0) ?_
              refine JL_guard rfl rfl q3 ?_
              refine JL_pd rfl (det_fieldAddr rfl fo_53_0) ?_
              refine JL_guard rfl rfl q3 ?_
              refine JL_dt rfl (det_loadK rfl Try.isAgg3 rfl) ?_
              refine JL_guard rfl rfl q3 ?_
              refine JL_pd rfl (det_fieldAddr rfl fo_57_0) ?_
              refine JL_guard rfl rfl q3 ?_
              refine JL_pd rfl (det_fieldAddr rfl fo_53_1) ?_
              refine JL_guard rfl rfl q3 ?_
              refine JL_dt rfl (det_loadK rfl Try.isAgg3 rfl) ?_
              refine JL_guard rfl rfl q3 ?_
              refine JL_step rfl rfl rfl (jo_callv rfl rfl Try.call22 rfl (rIn_j _ _ _)) fun _ => ?_
              refine JL_pd rfl (det_pick_t rfl q3 rfl) ?_
              refine JL_pd rfl (det_move rfl) ?_
              refine JL_split (d0 := 150) rfl (fun q4 => ?_) (fun q4 => ?_)
              · refine JL_guard rfl rfl q4 ?_
                refine JL_pd rfl (det_fieldAddr rfl fo_27_1) ?_
                refine JL_guard rfl rfl q4 ?_
                refine JL_dt rfl (det_loadK rfl Try.isAgg3 rfl) ?_
                refine JL_guard rfl rfl q4 ?_
                refine JL_pd rfl (det_fieldAddr rfl fo_57_1) ?_
                refine JL_guard rfl rfl q4 ?_
                refine JL_pd rfl (det_fieldAddr rfl fo_53_0) ?_
                refine JL_guard rfl rfl q4 ?_
                refine JL_dt rfl (det_loadK rfl Try.isAgg3 rfl) ?_
                refine JL_guard rfl rfl q4 ?_
                refine JL_pd rfl (det_fieldAddr rfl fo_57_1) ?_
                refine JL_guard rfl rfl q4 ?_
                refine JL_pd rfl (det_fieldAddr rfl fo_53_1) ?_
                refine JL_guard rfl rfl q4 ?_
                refine JL_dt rfl (det_loadK rfl Try.isAgg3 rfl) ?_
                refine JL_guard rfl rfl q4 ?_
                refine JL_step rfl rfl rfl (jo_callv rfl rfl Try.call22 rfl (rIn_j _ _ _)) fun _ => ?_
                refine JL_pd rfl (det_pick_t rfl q4 rfl) ?_
                refine JL_pd rfl (det_assign rfl) ?_
                exact hj (by kernel_rfl) (stsub_consB rfl (by clear hj; first | rfl | assumption | exact hx4 ‹_› ‹_›) stsub_nil)
              · refine JL_skip rfl rfl q4 rfl ?_
                refine JL_skip rfl rfl q4 rfl ?_
                refine JL_skip rfl rfl q4 rfl ?_
                refine JL_skip rfl rfl q4 rfl ?_
                refine JL_skip rfl rfl q4 rfl ?_
                refine JL_skip rfl rfl q4 rfl ?_
                refine JL_skip rfl rfl q4 rfl ?_
                refine JL_skip rfl rfl q4 rfl ?_
                refine JL_skip rfl rfl q4 rfl ?_
                refine JL_pd rfl (det_pick_f rfl q4 rfl) ?_
                refine JL_pd rfl (det_assign rfl) ?_
                exact hj (by kernel_rfl) (stsub_consB rfl (by clear hj; first | rfl | assumption | exact hx4 ‹_› ‹_›) stsub_nil)
            · refine JL_skip rfl rfl q3 rfl ?_
              refine JL_skip rfl rfl q3 rfl ?_
              refine JL_skip rfl rfl q3 rfl ?_
              refine JL_skip rfl rfl q3 rfl ?_
              refine JL_skip rfl rfl q3 rfl ?_
              refine JL_skip rfl rfl q3 rfl ?_
              refine JL_skip rfl rfl q3 rfl ?_
              refine JL_skip rfl rfl q3 rfl ?_
              refine JL_pd rfl (det_pick_f rfl q3 rfl) ?_
              refine JL_pd rfl (det_move rfl) ?_
              refine JL_skip rfl rfl rfl rfl ?_
              refine JL_skip rfl rfl rfl rfl ?_
              refine JL_skip rfl rfl rfl rfl ?_
              refine JL_skip rfl rfl rfl rfl ?_
              refine JL_skip rfl rfl rfl rfl ?_
              refine JL_skip rfl rfl rfl rfl ?_
              refine JL_skip rfl rfl rfl rfl ?_
              refine JL_skip rfl rfl rfl rfl ?_
              refine JL_skip rfl rfl rfl rfl ?_
              refine JL_pd rfl (det_pick_f rfl rfl rfl) ?_
              refine JL_pd rfl (det_assign rfl) ?_
              exact hj (by kernel_rfl) (stsub_consB rfl (by clear hj; first | rfl | assumption | exact hx4 ‹_› ‹_›) stsub_nil)
          refine JL_nil ?_
          refine JE_seq ?_
          refine JC_seq ?_
          refine JC_region ?_
          refine JL_pd rfl (det_move rfl) ?_
          refine JL_pd rfl (det_eql rfl rfl) ?_
          refine JL_pd rfl (det_move rfl) ?_
          -- stop: guard 2
          refine JL_is (d0 := 163) true rfl (by rfl) (fun g1 => ?_)
          refine JL_guard rfl rfl g1 ?_
          refine JL_pd rfl (det_move rfl) ?_
          refine JL_guard rfl rfl g1 ?_
          refine JL_pd rfl (det_move rfl) ?_
          refine JL_skip rfl rfl rfl rfl ?_
          refine JL_skip rfl rfl rfl rfl ?_
          refine JL_guard rfl rfl g1 ?_
          refine JL_pd rfl (det_pick_f rfl rfl rfl) ?_
          refine JL_guard rfl rfl g1 ?_
          refine JL_pd rfl (det_move rfl) ?_
          refine JL_guard rfl rfl rfl ?_
          refine JL_pd rfl (det_move rfl) ?_
          refine JL_guard rfl rfl rfl ?_
          refine JL_pd rfl (det_not rfl) ?_
          refine JL_guard rfl rfl rfl ?_
          refine JL_pd rfl (det_move rfl) ?_
          refine JL_guard rfl rfl rfl ?_
          refine JL_pd rfl (det_move rfl) ?_
          refine JL_guard rfl rfl rfl ?_
          refine JL_pd rfl (det_eql rfl rfl) ?_
          refine JL_guard rfl rfl rfl ?_
          refine JL_pd rfl (det_pick_t rfl rfl rfl) ?_
          refine JL_guard rfl rfl g1 ?_
          refine JL_pd rfl (det_pick_f rfl rfl rfl) ?_
          refine JL_pd rfl (det_pick_t rfl g1 rfl) ?_
          refine JL_pd rfl (det_move rfl) ?_
          -- stop: guard 17
          refine JL_is (d0 := 178) true rfl (by rfl) (fun g2 => ?_)
          refine JL_guard rfl rfl g2 ?_
          refine JL_step rfl rfl rfl (jo_callv rfl rfl Try.call17 rfl (lawake_j)) fun _ => ?_
          refine JL_pd rfl (det_pick_t rfl g2 rfl) ?_
          refine JL_pd rfl (det_assign rfl) ?_
          refine JL_nil ?_
          refine JE_seq ?_
          refine JC_ret ?_
          -- stop: out
          refine JE_out (.inl rfl) () (results1 Try.results9 (res_tmp rfl)) rfl (List.Perm.refl _) (fun _ _ => trivial)
end Go.Proofs.Ytcfhbnfincpehaa

/- Rack: the reference's and the law's small functions. -/
import Derived.Test.YthpkgabckklojaaGreatS9
set_option linter.unusedSimpArgs false
set_option linter.unusedVariables false
namespace Go.Proofs.YthpkgabckklojaaGreat.Rk
open Go.RowKit Go.Shelf

theorem Thin_j (r : Rk) (a : Option Addr) (c : Nat) (la : Option Addr) (n lc : Nat) (ba : Option Addr) (m bc : Nat) : Cv Tryz.prog 8 [vRk r a c, .slice la n lc, .slice ba m bc] KTrue (.bool (decide ((r.ls.length : Int) ≤ 16) && (decide ((n : Int) ≤ 15) && decide ((m : Int) ≤ 8)))) := by
  refine Cx_of Tryz.func8 rfl Tryz.ntmps8 rfl fun w0 M0 => ?_
  refine JC_seq ?_
  refine JC_region ?_
  refine JL_step rfl rfl rfl (jo_box rfl rfl) fun b3 => ?_
  refine JL_pd rfl (det_assign rfl) ?_
  refine JL_nil ?_
  refine JE_seq ?_
  refine JC_seq ?_
  refine JC_region ?_
  refine JL_pd rfl (det_fieldAddr rfl fo_30_4) ?_
  refine JL_dt rfl (det_loadK rfl Tryz.isAgg28 rfl) ?_
  refine JL_pd rfl (det_len rfl Tryz.runUnderlying28) ?_
  refine JL_pd rfl (det_leq rfl rfl) ?_
  refine JL_pd rfl (det_move rfl) ?_
  -- stop: guard 4
  refine JL_join1 10 6 (.bool (decide ((r.ls.length : Int) ≤ 16) && (decide ((n : Int) ≤ 15) && decide ((m : Int) ≤ 8)))) (fun hj => ?_) ?_
  · refine JL_split (d0 := 11) rfl (fun q1 => ?_) (fun q1 => ?_)
    · refine JL_guard rfl rfl q1 ?_
      refine JL_pd rfl (det_move rfl) ?_
      refine JL_guard rfl rfl q1 ?_
      refine JL_pd rfl (det_len rfl Tryz.runUnderlying31) ?_
      refine JL_guard rfl rfl q1 ?_
      refine JL_pd rfl (det_leq rfl rfl) ?_
      refine JL_pd rfl (det_pick_t rfl q1 rfl) ?_
      refine JL_pd rfl (det_move rfl) ?_
      refine JL_split (d0 := 16) rfl (fun q2 => ?_) (fun q2 => ?_)
      · refine JL_guard rfl rfl q2 ?_
        refine JL_pd rfl (det_move rfl) ?_
        refine JL_guard rfl rfl q2 ?_
        refine JL_pd rfl (det_len rfl Tryz.runUnderlying52) ?_
        refine JL_guard rfl rfl q2 ?_
        refine JL_pd rfl (det_leq rfl rfl) ?_
        refine JL_pd rfl (det_pick_t rfl q2 rfl) ?_
        refine JL_pd rfl (det_assign rfl) ?_
        exact hj (by kernel_rfl) (stsub_consB rfl (by clear hj; first | rfl | (simp only [q1, q2, Bool.and_true, Bool.true_and, Bool.false_and, Bool.and_false, Bool.or_true, Bool.true_or, Bool.or_false, Bool.false_or, Bool.not_true, Bool.not_false]; done) | (simp [q1, q2]; done) | (simp at q1; done) | (simp at q2; done) | (simp [q1, q2] <;> omega) | (exfalso; simp at q1 q2; omega) | (simp [q2] at q1; done) | (simp [q1] at q2; done)) stsub_nil)
      · refine JL_skip rfl rfl q2 rfl ?_
        refine JL_skip rfl rfl q2 rfl ?_
        refine JL_skip rfl rfl q2 rfl ?_
        refine JL_pd rfl (det_pick_f rfl q2 rfl) ?_
        refine JL_pd rfl (det_assign rfl) ?_
        exact hj (by kernel_rfl) (stsub_consB rfl (by clear hj; first | rfl | (simp only [q1, q2, Bool.and_true, Bool.true_and, Bool.false_and, Bool.and_false, Bool.or_true, Bool.true_or, Bool.or_false, Bool.false_or, Bool.not_true, Bool.not_false]; done) | (simp [q1, q2]; done) | (simp at q1; done) | (simp at q2; done) | (simp [q1, q2] <;> omega) | (exfalso; simp at q1 q2; omega) | (simp [q2] at q1; done) | (simp [q1] at q2; done)) stsub_nil)
    · refine JL_skip rfl rfl q1 rfl ?_
      refine JL_skip rfl rfl q1 rfl ?_
      refine JL_skip rfl rfl q1 rfl ?_
      refine JL_pd rfl (det_pick_f rfl q1 rfl) ?_
      refine JL_pd rfl (det_move rfl) ?_
      refine JL_skip rfl rfl rfl rfl ?_
      refine JL_skip rfl rfl rfl rfl ?_
      refine JL_skip rfl rfl rfl rfl ?_
      refine JL_pd rfl (det_pick_f rfl rfl rfl) ?_
      refine JL_pd rfl (det_assign rfl) ?_
      exact hj (by kernel_rfl) (stsub_consB rfl (by clear hj; first | rfl | (simp only [q1, Bool.and_true, Bool.true_and, Bool.false_and, Bool.and_false, Bool.or_true, Bool.true_or, Bool.or_false, Bool.false_or, Bool.not_true, Bool.not_false]; done) | (simp [q1]; done) | (simp at q1; done) | (simp [q1] <;> omega) | (exfalso; simp at q1; omega)) stsub_nil)
  refine JL_nil ?_
  refine JE_seq ?_
  refine JC_ret ?_
  -- stop: out
  refine JE_out (.inl rfl) () (results1 Tryz.results8 (res_tmp rfl)) rfl (List.Perm.refl _) (fun _ _ => trivial)
set_option maxRecDepth 100000 in
set_option maxHeartbeats 2000000 in
theorem Fault_j (r : Rk) (a : Option Addr) (c : Nat) : Cv Tryz.prog 9 [vRk r a c] (KRk r a c) (I (rFault r)) := by
  refine Cx_of Tryz.func9 rfl Tryz.ntmps9 rfl fun w0 M0 => ?_
  refine JC_seq ?_
  refine JC_region ?_
  refine JL_step rfl rfl rfl (jo_box rfl rfl) fun b1 => ?_
  refine JL_pd rfl (det_assign rfl) ?_
  refine JL_nil ?_
  refine JE_seq ?_
  refine JC_seq ?_
  refine JC_region ?_
  refine JL_pd rfl (det_assign rfl) ?_
  refine JL_nil ?_
  refine JE_seq ?_
  refine JC_seq ?_
  refine JC_seq ?_
  refine JC_region ?_
  refine JL_pd rfl (det_assign rfl) ?_
  refine JL_nil ?_
  refine JE_seq ?_
  refine JC_block ?_
  -- stop: loop
  refine JC_pure (p := r.ls.length ≤ 9223372036854775807) (by intro w h; exact h.1.bd) fun hz => ?_
  refine JC_loopF (γ := Nat) (fun i => i ≤ r.ls.length) (fun i => [(4, I i), (3, I ((mayN (r.ls.take i) : Nat) : Int))]) (fun _ => []) (fun i => r.ls.length - i) 0 (Nat.zero_le _) (stsub_consI rfl rfl (stsub_consI rfl rfl stsub_nil)) ht_nil ?_
  intro i hi K hK
  dsimp only [List.cons_append, List.nil_append]
  refine JC_seq ?_
  refine JC_seq ?_
  refine JC_region ?_
  refine JL_pd rfl (det_move rfl) ?_
  refine JL_pd rfl (det_fieldAddr rfl fo_30_4) ?_
  refine JL_dt rfl (det_loadK rfl Tryz.isAgg28 rfl) ?_
  refine JL_pd rfl (det_len rfl Tryz.runUnderlying28) ?_
  refine JL_pd rfl (det_lss rfl rfl) ?_
  refine JL_nil ?_
  refine JE_seq ?_
  -- stop: cond
  refine JC_if rfl (fun h1 => ?_) (fun h1 => ?_)
  · have hi2 : i < r.ls.length := by omega
    have hsn : mayN (r.ls.take (i + 1)) = mayN (r.ls.take i) + if r.ls[i].s = false then 1 else 0 := by
      unfold mayN
      rw [List.take_succ_eq_append_getElem hi2, List.countP_append, List.countP_cons, List.countP_nil, Nat.zero_add]
      cases r.ls[i].s <;> rfl
    have hml : mayN (r.ls.take i) ≤ i := by
      unfold mayN
      have := List.countP_le_length (p := fun l : Lk => !l.s) (l := r.ls.take i)
      rw [List.length_take] at this; omega
    refine JC_skip ?_
    refine JE_seq ?_
    refine JC_seq ?_
    refine JC_block ?_
    refine JC_seq ?_
    refine JC_region ?_
    refine JL_pd rfl (det_fieldAddr rfl fo_30_4) ?_
    refine JL_dt rfl (det_loadK rfl Tryz.isAgg28 rfl) ?_
    refine JL_pd rfl (det_move rfl) ?_
    refine JL_dt rfl (det_indexAddr rfl rfl (by first | rfl | omega) (by first | assumption | omega | decide) Tryz.runUnderlying28 Tryz.sizeOf111) ?_
    refine JL_pd rfl (det_fieldAddrE rfl fo_111_2) ?_
    refine JL_dt rfl (det_loadEk rfl (by first | assumption | omega | decide) Tryz.isAgg4 rfl rfl) ?_
    refine JL_pd rfl (det_not rfl) ?_
    refine JL_nil ?_
    refine JE_seq ?_
    -- stop: cond
    refine JC_cond rfl (fun h2 => ?_) (fun h2 => ?_)
    · have h3 : r.ls[i].s = false := by simpa using h2
      rw [if_pos h3] at hsn
      refine JC_region ?_
      refine JL_pd rfl (det_move rfl) ?_
      refine JL_pd rfl (det_add rfl rfl ⟨by omega, by omega⟩) ?_
      refine JL_pd rfl (det_assign rfl) ?_
      refine JL_nil ?_
      refine JE_block ?_
      refine JE_seq ?_
      refine JC_region ?_
      refine JL_pd rfl (det_move rfl) ?_
      refine JL_pd rfl (det_add rfl rfl ⟨by omega, by omega⟩) ?_
      refine JL_pd rfl (det_assign rfl) ?_
      refine JL_nil ?_
      -- stop: end
      refine JE_roundF hK (i + 1) (by omega) (by omega) (stsub_consI rfl (by omega) (stsub_consI rfl (by rw [hsn]; omega) stsub_nil)) ht_nil
    · have h3 : ¬ r.ls[i].s = false := by simpa using h2
      rw [if_neg h3] at hsn
      refine JC_skip ?_
      refine JE_block ?_
      refine JE_seq ?_
      refine JC_region ?_
      refine JL_pd rfl (det_move rfl) ?_
      refine JL_pd rfl (det_add rfl rfl ⟨by omega, by omega⟩) ?_
      refine JL_pd rfl (det_assign rfl) ?_
      refine JL_nil ?_
      -- stop: end
      refine JE_roundF hK (i + 1) (by omega) (by omega) (stsub_consI rfl (by omega) (stsub_consI rfl (by rw [hsn]; rfl) stsub_nil)) ht_nil
  · obtain rfl : i = r.ls.length := by omega
    rw [List.take_length]
    refine JC_exit ?_
    refine JE_seq_exit ?_
    refine JE_then_exit ?_
    refine JE_block_here ?_
    refine JE_seq ?_
    refine JC_seq ?_
    refine JC_seq ?_
    refine JC_region ?_
    refine JL_pd rfl (det_fieldAddr rfl fo_30_4) ?_
    refine JL_dt rfl (det_loadK rfl Tryz.isAgg28 rfl) ?_
    refine JL_pd rfl (det_len rfl Tryz.runUnderlying28) ?_
    refine JL_pd rfl (det_gtr rfl rfl) ?_
    refine JL_pd rfl (det_move rfl) ?_
    -- stop: guard 4
    refine JL_join1 3 30 (.bool (decide ((12 : Int) < (r.ls.length : Int)) || decide ((6 : Int) < ((mayN r.ls : Nat) : Int)))) (fun hj => ?_) ?_
    · refine JL_split (d0 := 27) rfl (fun q3 => ?_) (fun q3 => ?_)
      · refine JL_skip rfl rfl q3 rfl ?_
        refine JL_skip rfl rfl q3 rfl ?_
        refine JL_pd rfl (det_pick_t rfl q3 rfl) ?_
        exact hj (by kernel_rfl) (stsub_consB rfl (by clear hj; first | rfl | (simp only [q3, Bool.and_true, Bool.true_and, Bool.false_and, Bool.and_false, Bool.or_true, Bool.true_or, Bool.or_false, Bool.false_or, Bool.not_true, Bool.not_false]; done) | (simp [q3]; done) | (simp at q3; done) | (simp [q3] <;> omega) | (exfalso; simp at q3; omega)) stsub_nil)
      · refine JL_guard rfl rfl q3 ?_
        refine JL_pd rfl (det_move rfl) ?_
        refine JL_guard rfl rfl q3 ?_
        refine JL_pd rfl (det_gtr rfl rfl) ?_
        refine JL_pd rfl (det_pick_f rfl q3 rfl) ?_
        exact hj (by kernel_rfl) (stsub_consB rfl (by clear hj; first | rfl | (simp only [q3, Bool.and_true, Bool.true_and, Bool.false_and, Bool.and_false, Bool.or_true, Bool.true_or, Bool.or_false, Bool.false_or, Bool.not_true, Bool.not_false]; done) | (simp [q3]; done) | (simp at q3; done) | (simp [q3] <;> omega) | (exfalso; simp at q3; omega)) stsub_nil)
    refine JL_nil ?_
    refine JE_seq ?_
    -- stop: cond
    refine JC_cond rfl (fun h4 => ?_) (fun h4 => ?_)
    · have h5 : 12 < r.ls.length ∨ 6 < mayN r.ls := by
        simp only [Bool.or_eq_true, decide_eq_true_eq] at h4
        omega
      refine JC_seq ?_
      refine JC_region ?_
      refine JL_pd rfl (det_assign rfl) ?_
      refine JL_nil ?_
      refine JE_seq ?_
      refine JC_ret ?_
      refine JE_seq_ret ?_
      -- stop: out
      refine JE_out (.inl rfl) () (results1 Tryz.results9 (res_tmp rfl)) (by unfold rFault; rw [if_pos h5]) (List.Perm.refl _) (fun _ _ => trivial)
    · have h5 : ¬ (12 < r.ls.length ∨ 6 < mayN r.ls) := by
        simp only [Bool.or_eq_false_iff, decide_eq_false_iff_not] at h4
        omega
      refine JC_skip ?_
      refine JE_seq ?_
      refine JC_seq ?_
      refine JC_seq ?_
      refine JC_region ?_
      refine JL_pd rfl (det_fieldAddr rfl fo_30_0) ?_
      refine JL_dt rfl (det_loadK rfl Tryz.isAgg3 rfl) ?_
      refine JL_step rfl rfl rfl (jo_callv rfl rfl Tryz.call42 rfl (In_j _ _ _)) fun _ => ?_
      refine JL_pd rfl (det_not rfl) ?_
      refine JL_pd rfl (det_move rfl) ?_
      -- stop: guard 4
      refine JL_join1 17 52 (.bool (!(inI r.rows 1 4 && (inI r.mid 0 60 && (inI r.gap 1 8 && inI r.rch 0 10))))) (fun hj => ?_) ?_
      · refine JL_split (d0 := 35) rfl (fun q4 => ?_) (fun q4 => ?_)
        · refine JL_skip rfl rfl q4 rfl ?_
          refine JL_skip rfl rfl q4 rfl ?_
          refine JL_skip rfl rfl q4 rfl ?_
          refine JL_skip rfl rfl q4 rfl ?_
          refine JL_pd rfl (det_pick_t rfl q4 rfl) ?_
          refine JL_pd rfl (det_move rfl) ?_
          refine JL_skip rfl rfl rfl rfl ?_
          refine JL_skip rfl rfl rfl rfl ?_
          refine JL_skip rfl rfl rfl rfl ?_
          refine JL_skip rfl rfl rfl rfl ?_
          refine JL_pd rfl (det_pick_t rfl rfl rfl) ?_
          refine JL_pd rfl (det_move rfl) ?_
          refine JL_skip rfl rfl rfl rfl ?_
          refine JL_skip rfl rfl rfl rfl ?_
          refine JL_skip rfl rfl rfl rfl ?_
          refine JL_skip rfl rfl rfl rfl ?_
          refine JL_pd rfl (det_pick_t rfl rfl rfl) ?_
          exact hj (by kernel_rfl) (stsub_consB rfl (by clear hj; first | rfl | (simp only [q4, Bool.and_true, Bool.true_and, Bool.false_and, Bool.and_false, Bool.or_true, Bool.true_or, Bool.or_false, Bool.false_or, Bool.not_true, Bool.not_false]; done) | (simp [q4]; done) | (simp at q4; done) | (simp [q4] <;> omega) | (exfalso; simp at q4; omega)) stsub_nil)
        · refine JL_guard rfl rfl q4 ?_
          refine JL_pd rfl (det_fieldAddr rfl fo_30_1) ?_
          refine JL_guard rfl rfl q4 ?_
          refine JL_dt rfl (det_loadK rfl Tryz.isAgg3 rfl) ?_
          refine JL_guard rfl rfl q4 ?_
          refine JL_step rfl rfl rfl (jo_callv rfl rfl Tryz.call42 rfl (In_j _ _ _)) fun _ => ?_
          refine JL_guard rfl rfl q4 ?_
          refine JL_pd rfl (det_not rfl) ?_
          refine JL_pd rfl (det_pick_f rfl q4 rfl) ?_
          refine JL_pd rfl (det_move rfl) ?_
          refine JL_split (d0 := 41) rfl (fun q5 => ?_) (fun q5 => ?_)
          · refine JL_skip rfl rfl q5 rfl ?_
            refine JL_skip rfl rfl q5 rfl ?_
            refine JL_skip rfl rfl q5 rfl ?_
            refine JL_skip rfl rfl q5 rfl ?_
            refine JL_pd rfl (det_pick_t rfl q5 rfl) ?_
            refine JL_pd rfl (det_move rfl) ?_
            refine JL_skip rfl rfl rfl rfl ?_
            refine JL_skip rfl rfl rfl rfl ?_
            refine JL_skip rfl rfl rfl rfl ?_
            refine JL_skip rfl rfl rfl rfl ?_
            refine JL_pd rfl (det_pick_t rfl rfl rfl) ?_
            exact hj (by kernel_rfl) (stsub_consB rfl (by clear hj; first | rfl | (simp only [q4, q5, Bool.and_true, Bool.true_and, Bool.false_and, Bool.and_false, Bool.or_true, Bool.true_or, Bool.or_false, Bool.false_or, Bool.not_true, Bool.not_false]; done) | (simp [q4, q5]; done) | (simp at q4; done) | (simp at q5; done) | (simp [q4, q5] <;> omega) | (exfalso; simp at q4 q5; omega) | (simp [q5] at q4; done) | (simp [q4] at q5; done)) stsub_nil)
          · refine JL_guard rfl rfl q5 ?_
            refine JL_pd rfl (det_fieldAddr rfl fo_30_2) ?_
            refine JL_guard rfl rfl q5 ?_
            refine JL_dt rfl (det_loadK rfl Tryz.isAgg3 rfl) ?_
            refine JL_guard rfl rfl q5 ?_
            refine JL_step rfl rfl rfl (jo_callv rfl rfl Tryz.call42 rfl (In_j _ _ _)) fun _ => ?_
            refine JL_guard rfl rfl q5 ?_
            refine JL_pd rfl (det_not rfl) ?_
            refine JL_pd rfl (det_pick_f rfl q5 rfl) ?_
            refine JL_pd rfl (det_move rfl) ?_
            refine JL_split (d0 := 47) rfl (fun q6 => ?_) (fun q6 => ?_)
            · refine JL_skip rfl rfl q6 rfl ?_
              refine JL_skip rfl rfl q6 rfl ?_
              refine JL_skip rfl rfl q6 rfl ?_
              refine JL_skip rfl rfl q6 rfl ?_
              refine JL_pd rfl (det_pick_t rfl q6 rfl) ?_
              exact hj (by kernel_rfl) (stsub_consB rfl (by clear hj; first | rfl | (simp only [q4, q5, q6, Bool.and_true, Bool.true_and, Bool.false_and, Bool.and_false, Bool.or_true, Bool.true_or, Bool.or_false, Bool.false_or, Bool.not_true, Bool.not_false]; done) | (simp [q4, q5, q6]; done) | (simp at q4; done) | (simp at q5; done) | (simp at q6; done) | (simp [q4, q5, q6] <;> omega) | (exfalso; simp at q4 q5 q6; omega) | (simp [q5, q6] at q4; done) | (simp [q4, q6] at q5; done) | (simp [q4, q5] at q6; done)) stsub_nil)
            · refine JL_guard rfl rfl q6 ?_
              refine JL_pd rfl (det_fieldAddr rfl fo_30_3) ?_
              refine JL_guard rfl rfl q6 ?_
              refine JL_dt rfl (det_loadK rfl Tryz.isAgg3 rfl) ?_
              refine JL_guard rfl rfl q6 ?_
              refine JL_step rfl rfl rfl (jo_callv rfl rfl Tryz.call42 rfl (In_j _ _ _)) fun _ => ?_
              refine JL_guard rfl rfl q6 ?_
              refine JL_pd rfl (det_not rfl) ?_
              refine JL_pd rfl (det_pick_f rfl q6 rfl) ?_
              exact hj (by kernel_rfl) (stsub_consB rfl (by clear hj; first | rfl | (simp only [q4, q5, q6, Bool.and_true, Bool.true_and, Bool.false_and, Bool.and_false, Bool.or_true, Bool.true_or, Bool.or_false, Bool.false_or, Bool.not_true, Bool.not_false]; done) | (simp [q4, q5, q6]; done) | (simp at q4; done) | (simp at q5; done) | (simp at q6; done) | (simp [q4, q5, q6] <;> omega) | (exfalso; simp at q4 q5 q6; omega) | (simp [q5, q6] at q4; done) | (simp [q4, q6] at q5; done) | (simp [q4, q5] at q6; done)) stsub_nil)
      refine JL_nil ?_
      refine JE_seq ?_
      -- stop: cond
      refine JC_cond rfl (fun h6 => ?_) (fun h6 => ?_)
      · have h7 : (inI r.rows 1 4 && (inI r.mid 0 60 && (inI r.gap 1 8 && (inI r.rch 0 10 && r.ls.all (lkOk r))))) = false := by
          rw [Bool.not_eq_true'] at h6
          revert h6
          cases inI r.rows 1 4 <;> cases inI r.mid 0 60 <;> cases inI r.gap 1 8 <;> cases inI r.rch 0 10 <;> simp
        refine JC_seq ?_
        refine JC_region ?_
        refine JL_pd rfl (det_assign rfl) ?_
        refine JL_nil ?_
        refine JE_seq ?_
        refine JC_ret ?_
        refine JE_seq_ret ?_
        -- stop: out
        refine JE_out (.inl rfl) () (results1 Tryz.results9 (res_tmp rfl)) (by unfold rFault; rw [if_neg h5, if_pos h7]) (List.Perm.refl _) (fun _ _ => trivial)
      · simp only [Bool.not_eq_false', Bool.and_eq_true] at h6
        obtain ⟨q1, q2, q3, q4⟩ := h6
        have hr := inI_iff.1 q1
        have hpo := pins_of hr.1 hr.2
        refine JC_skip ?_
        refine JE_seq ?_
        refine JC_seq ?_
        refine JC_seq ?_
        refine JC_region ?_
        refine JL_pd rfl (det_assign rfl) ?_
        refine JL_nil ?_
        refine JE_seq ?_
        refine JC_block ?_
        -- stop: loop
        refine JC_loopF (γ := Nat) (fun i => i ≤ r.ls.length ∧ (r.ls.take i).all (lkOk r) = true) (fun i => [(5, I i)]) (fun _ => []) (fun i => r.ls.length - i) 0 ⟨Nat.zero_le _, rfl⟩ (stsub_consI rfl rfl stsub_nil) ht_nil ?_
        rintro i ⟨hi, hall⟩ K hK
        dsimp only [List.cons_append, List.nil_append]
        refine JC_seq ?_
        refine JC_seq ?_
        refine JC_region ?_
        refine JL_pd rfl (det_move rfl) ?_
        refine JL_pd rfl (det_fieldAddr rfl fo_30_4) ?_
        refine JL_dt rfl (det_loadK rfl Tryz.isAgg28 rfl) ?_
        refine JL_pd rfl (det_len rfl Tryz.runUnderlying28) ?_
        refine JL_pd rfl (det_lss rfl rfl) ?_
        refine JL_nil ?_
        refine JE_seq ?_
        -- stop: cond
        refine JC_if rfl (fun h8 => ?_) (fun h8 => ?_)
        · have hi2 : i < r.ls.length := by omega
          refine JC_skip ?_
          refine JE_seq ?_
          refine JC_seq ?_
          refine JC_block ?_
          refine JC_seq ?_
          refine JC_region ?_
          refine JL_pd rfl (det_fieldAddr rfl fo_30_4) ?_
          refine JL_dt rfl (det_loadK rfl Tryz.isAgg28 rfl) ?_
          refine JL_pd rfl (det_move rfl) ?_
          refine JL_dt rfl (det_indexAddr rfl rfl (by first | rfl | omega) (by first | assumption | omega | decide) Tryz.runUnderlying28 Tryz.sizeOf111) ?_
          refine JL_dt rfl (det_loadEA rfl (by first | assumption | omega | decide) Tryz.isAgg111 Tryz.sizeOf111 rfl rfl rfl) ?_
          refine JL_step rfl rfl rfl (jo_alloc0 Tryz.zeroValue111 rfl) fun b6 => ?_
          refine JL_step0 rfl rfl (jo_store rfl rfl rfl (by first | (simp only [splice_norm]; done) | (simp only [splice_norm]; rfl) | rfl) Tryz.sizeOf111 rfl rfl) fun _ => ?_
          refine JL_nil ?_
          refine JE_seq ?_
          refine JC_seq ?_
          refine JC_draw [] (by kernel_rfl) ?_
          refine JA_pd (i := 0) rfl (by kernel_rfl) rfl rfl (det_fieldAddr rfl fo_111_0) ?_
          refine JA_dt (i := 1) rfl (by kernel_rfl) (by kernel_rfl) rfl rfl (det_loadK rfl Tryz.isAgg3 rfl) ?_
          refine JA_dt (i := 2) rfl (by kernel_rfl) (by kernel_rfl) rfl rfl (det_loadKA rfl Tryz.isAgg30 Tryz.sizeOf30 rfl rfl) ?_
          refine JA_one (i := 3) (by kernel_rfl) rfl rfl (jo_callv rfl rfl Tryz.call43 rfl (Pins_j r a c hr)) (fun _ => ⟨hsub_refl, fun _ h => h⟩) fun _ => ?_
          refine JA_pd (i := 4) rfl (by kernel_rfl) rfl rfl (det_sub rfl rfl ⟨by omega, by omega⟩) ?_
          refine JA_one (i := 5) (by kernel_rfl) rfl rfl (jo_callv rfl rfl Tryz.call42 rfl (In_j _ _ _)) (fun _ => ⟨hsub_refl, fun _ h => h⟩) fun _ => ?_
          refine JA_pd (i := 6) rfl (by kernel_rfl) rfl rfl (det_not rfl) ?_
          refine JA_pd (i := 7) rfl (by kernel_rfl) rfl rfl (det_move rfl) ?_
          -- stop: guard 7
          refine JA_split (d0 := 72) rfl (fun g1 => ?_) (fun g1 => ?_)
          · have hbad : lkOk r r.ls[i] = false := by
              rw [Bool.not_eq_true'] at g1
              unfold lkOk; rw [g1]; rfl
            refine JA_skip (i := 8) rfl (by kernel_rfl) rfl rfl rfl rfl g1 ?_
            refine JA_skip (i := 9) rfl (by kernel_rfl) rfl rfl rfl rfl g1 ?_
            refine JA_skip (i := 10) rfl (by kernel_rfl) rfl rfl rfl rfl g1 ?_
            refine JA_skip (i := 11) rfl (by kernel_rfl) rfl rfl rfl rfl g1 ?_
            refine JA_skip (i := 12) rfl (by kernel_rfl) rfl rfl rfl rfl g1 ?_
            refine JA_skip (i := 13) rfl (by kernel_rfl) rfl rfl rfl rfl g1 ?_
            refine JA_skip (i := 14) rfl (by kernel_rfl) rfl rfl rfl rfl g1 ?_
            refine JA_pd (i := 15) rfl (by kernel_rfl) rfl rfl (det_pick_t rfl g1 rfl) ?_
            refine JA_pd (i := 16) rfl (by kernel_rfl) rfl rfl (det_move rfl) ?_
            refine JA_skip (i := 17) rfl (by kernel_rfl) rfl rfl rfl rfl rfl ?_
            refine JA_skip (i := 18) rfl (by kernel_rfl) rfl rfl rfl rfl rfl ?_
            refine JA_skip (i := 19) rfl (by kernel_rfl) rfl rfl rfl rfl rfl ?_
            refine JA_skip (i := 20) rfl (by kernel_rfl) rfl rfl rfl rfl rfl ?_
            refine JA_skip (i := 21) rfl (by kernel_rfl) rfl rfl rfl rfl rfl ?_
            refine JA_pd (i := 22) rfl (by kernel_rfl) rfl rfl (det_pick_t rfl rfl rfl) ?_
            refine JA_done (by kernel_rfl) ?_
            refine JE_seq ?_
            refine JC_condT rfl rfl ?_
            refine JC_seq ?_
            refine JC_region ?_
            refine JL_pd rfl (det_assign rfl) ?_
            refine JL_nil ?_
            refine JE_seq ?_
            refine JC_ret ?_
            refine JE_block_ret ?_
            refine JE_seq_ret ?_
            refine JE_then_ret ?_
            refine JE_block_ret ?_
            refine JE_seq_ret ?_
            -- stop: out
            refine JE_out (.inl rfl) () (results1 Tryz.results9 (res_tmp rfl)) (by unfold rFault; rw [if_neg h5, if_pos (by rw [List.all_eq_false.2 ⟨r.ls[i], List.getElem_mem hi2, by rw [hbad]; decide⟩]; simp)]) (List.Perm.refl _) (fun _ _ => trivial)
          · refine JA_gpd (i := 8) rfl (by kernel_rfl) rfl rfl rfl rfl g1 (det_fieldAddr rfl fo_111_1) ?_
            refine JA_gdt (i := 9) rfl (by kernel_rfl) (by kernel_rfl) rfl rfl rfl rfl g1 (det_loadK rfl Tryz.isAgg3 rfl) ?_
            refine JA_gdt (i := 10) rfl (by kernel_rfl) (by kernel_rfl) rfl rfl rfl rfl g1 (det_loadKA rfl Tryz.isAgg30 Tryz.sizeOf30 rfl rfl) ?_
            refine JA_gone (i := 11) (by kernel_rfl) rfl rfl rfl g1 rfl (jo_callv rfl rfl Tryz.call43 rfl (Pins_j r a c hr)) (fun _ => ⟨hsub_refl, fun _ h => h⟩) fun _ => ?_
            refine JA_gpd (i := 12) rfl (by kernel_rfl) rfl rfl rfl rfl g1 (det_sub rfl rfl ⟨by omega, by omega⟩) ?_
            refine JA_gone (i := 13) (by kernel_rfl) rfl rfl rfl g1 rfl (jo_callv rfl rfl Tryz.call42 rfl (In_j _ _ _)) (fun _ => ⟨hsub_refl, fun _ h => h⟩) fun _ => ?_
            refine JA_gpd (i := 14) rfl (by kernel_rfl) rfl rfl rfl rfl g1 (det_not rfl) ?_
            refine JA_pd (i := 15) rfl (by kernel_rfl) rfl rfl (det_pick_f rfl g1 rfl) ?_
            refine JA_pd (i := 16) rfl (by kernel_rfl) rfl rfl (det_move rfl) ?_
            -- stop: guard 16
            rw [Bool.not_eq_false'] at g1
            refine JA_split (d0 := 81) rfl (fun g2 => ?_) (fun g2 => ?_)
            · have hbad : lkOk r r.ls[i] = false := by
                rw [Bool.not_eq_true'] at g2
                unfold lkOk; rw [g2, Bool.false_and, Bool.and_false]
              refine JA_skip (i := 17) rfl (by kernel_rfl) rfl rfl rfl rfl g2 ?_
              refine JA_skip (i := 18) rfl (by kernel_rfl) rfl rfl rfl rfl g2 ?_
              refine JA_skip (i := 19) rfl (by kernel_rfl) rfl rfl rfl rfl g2 ?_
              refine JA_skip (i := 20) rfl (by kernel_rfl) rfl rfl rfl rfl g2 ?_
              refine JA_skip (i := 21) rfl (by kernel_rfl) rfl rfl rfl rfl g2 ?_
              refine JA_pd (i := 22) rfl (by kernel_rfl) rfl rfl (det_pick_t rfl g2 rfl) ?_
              refine JA_done (by kernel_rfl) ?_
              refine JE_seq ?_
              refine JC_condT rfl rfl ?_
              refine JC_seq ?_
              refine JC_region ?_
              refine JL_pd rfl (det_assign rfl) ?_
              refine JL_nil ?_
              refine JE_seq ?_
              refine JC_ret ?_
              refine JE_block_ret ?_
              refine JE_seq_ret ?_
              refine JE_then_ret ?_
              refine JE_block_ret ?_
              refine JE_seq_ret ?_
              -- stop: out
              refine JE_out (.inl rfl) () (results1 Tryz.results9 (res_tmp rfl)) (by unfold rFault; rw [if_neg h5, if_pos (by rw [List.all_eq_false.2 ⟨r.ls[i], List.getElem_mem hi2, by rw [hbad]; decide⟩]; simp)]) (List.Perm.refl _) (fun _ _ => trivial)
            · refine JA_gpd (i := 17) rfl (by kernel_rfl) rfl rfl rfl rfl g2 (det_fieldAddr rfl fo_111_0) ?_
              refine JA_gdt (i := 18) rfl (by kernel_rfl) (by kernel_rfl) rfl rfl rfl rfl g2 (det_loadK rfl Tryz.isAgg3 rfl) ?_
              refine JA_gpd (i := 19) rfl (by kernel_rfl) rfl rfl rfl rfl g2 (det_fieldAddr rfl fo_111_1) ?_
              refine JA_gdt (i := 20) rfl (by kernel_rfl) (by kernel_rfl) rfl rfl rfl rfl g2 (det_loadK rfl Tryz.isAgg3 rfl) ?_
              refine JA_gpd (i := 21) rfl (by kernel_rfl) rfl rfl rfl rfl g2 (det_eql rfl rfl) ?_
              refine JA_pd (i := 22) rfl (by kernel_rfl) rfl rfl (det_pick_f rfl g2 rfl) ?_
              refine JA_done (by kernel_rfl) ?_
              refine JE_seq ?_
              -- stop: cond
              rw [Bool.not_eq_false'] at g2
              refine JC_cond rfl (fun g3 => ?_) (fun g3 => ?_)
              · have hbad : lkOk r r.ls[i] = false := by
                  unfold lkOk; rw [g3]; simp
                refine JC_seq ?_
                refine JC_region ?_
                refine JL_pd rfl (det_assign rfl) ?_
                refine JL_nil ?_
                refine JE_seq ?_
                refine JC_ret ?_
                refine JE_block_ret ?_
                refine JE_seq_ret ?_
                refine JE_then_ret ?_
                refine JE_block_ret ?_
                refine JE_seq_ret ?_
                -- stop: out
                refine JE_out (.inl rfl) () (results1 Tryz.results9 (res_tmp rfl)) (by unfold rFault; rw [if_neg h5, if_pos (by rw [List.all_eq_false.2 ⟨r.ls[i], List.getElem_mem hi2, by rw [hbad]; decide⟩]; simp)]) (List.Perm.refl _) (fun _ _ => trivial)
              · have h9 : lkOk r r.ls[i] = true := by
                  unfold lkOk; rw [g1, g2, g3]; rfl
                refine JC_skip ?_
                refine JE_block ?_
                refine JE_seq ?_
                refine JC_region ?_
                refine JL_pd rfl (det_move rfl) ?_
                refine JL_pd rfl (det_add rfl rfl ⟨by omega, by omega⟩) ?_
                refine JL_pd rfl (det_assign rfl) ?_
                refine JL_nil ?_
                -- stop: end
                refine JE_roundF hK (i + 1) ⟨by omega, by rw [List.take_succ_eq_append_getElem hi2, List.all_append, hall]; simp [h9]⟩ (by omega) (stsub_consI rfl (by omega) stsub_nil) ht_nil
        · obtain rfl : i = r.ls.length := by omega
          rw [List.take_length] at hall
          refine JC_exit ?_
          refine JE_seq_exit ?_
          refine JE_then_exit ?_
          refine JE_block_here ?_
          refine JE_seq ?_
          refine JC_seq ?_
          refine JC_region ?_
          refine JL_pd rfl (det_assign rfl) ?_
          refine JL_nil ?_
          refine JE_seq ?_
          refine JC_ret ?_
          -- stop: out
          refine JE_out (.inl rfl) () (results1 Tryz.results9 (res_tmp rfl)) (by unfold rFault; rw [if_neg h5, if_neg (by rw [q1, q2, q3, q4, hall]; decide)]) (List.Perm.refl _) (fun _ _ => trivial)
theorem upB_snoc : ∀ (xs : List Int) (s x : Int), upB s (xs ++ [x]) = (upB s xs && decide (xs.getLastD s < x))
  | [], s, x => by simp [upB]
  | y :: xs, s, x => by
    rw [List.cons_append]
    unfold upB
    rw [upB_snoc xs y x, Bool.and_assoc, List.getLastD_cons]
set_option maxRecDepth 100000 in
set_option maxHeartbeats 1000000 in
theorem Rising_j (r : Rk) (a : Option Addr) (c : Nat) (V : VR r) (la : Option Addr) (lc : Nat) (l : List Int) : Cr Tryz.prog 10 [vRk r a c, .slice la l.length lc] (KSl la l.length lc encN l) (fun q : {b : Bool // b = true → VP r l} => .bool q.1) (fun _ => KTrue) := by
  have r0 := V.r0
  have r1 := V.r1
  have hpo := pins_of r0 r1
  refine Cx_of Tryz.func10 rfl Tryz.ntmps10 rfl fun w0 M0 => ?_
  refine JC_seq ?_
  refine JC_region ?_
  refine JL_step rfl rfl rfl (jo_box rfl rfl) fun b2 => ?_
  refine JL_pd rfl (det_assign rfl) ?_
  refine JL_nil ?_
  refine JE_seq ?_
  refine JC_seq ?_
  refine JC_seq ?_
  refine JC_region ?_
  refine JL_pd rfl (det_assign rfl) ?_
  refine JL_nil ?_
  refine JE_seq ?_
  refine JC_block ?_
  -- stop: loop
  refine JC_pure (p := l.length ≤ 9223372036854775807) (by intro w h; exact h.1.bd) fun hz => ?_
  refine JC_loopF (γ := Nat) (fun i => i ≤ l.length ∧ (∀ x ∈ l.take i, 0 ≤ x ∧ x ≤ pinsN r.rows - 1) ∧ upB (-1) (l.take i) = true) (fun i => [(5, I i)]) (fun _ => []) (fun i => l.length - i) 0 ⟨Nat.zero_le _, fun x hx => by simp at hx, rfl⟩ (stsub_consI rfl rfl stsub_nil) ht_nil ?_
  rintro i ⟨hi, hin, hup⟩ K hK
  dsimp only [List.cons_append, List.nil_append]
  refine JC_seq ?_
  refine JC_seq ?_
  refine JC_region ?_
  refine JL_pd rfl (det_move rfl) ?_
  refine JL_pd rfl (det_move rfl) ?_
  refine JL_pd rfl (det_len rfl Tryz.runUnderlying31) ?_
  refine JL_pd rfl (det_lss rfl rfl) ?_
  refine JL_nil ?_
  refine JE_seq ?_
  -- stop: cond
  refine JC_if rfl (fun h1 => ?_) (fun h1 => ?_)
  · have hi2 : i < l.length := by omega
    have hnx : inI l[i] 0 (pinsN r.rows - 1) = true → (i = 0 ∨ ∃ j, ∃ hj : j < l.length, j + 1 = i ∧ l[j] < l[i]) → (∀ x ∈ l.take (i + 1), 0 ≤ x ∧ x ≤ pinsN r.rows - 1) ∧ upB (-1) (l.take (i + 1)) = true := fun h2 h3 => by
      have h2' := inI_iff.1 h2
      rw [List.take_succ_eq_append_getElem hi2]
      refine ⟨fun x hx => ?_, ?_⟩
      · rcases List.mem_append.1 hx with hx | hx
        · exact hin x hx
        · rw [List.mem_singleton.1 hx]; exact h2'
      · rw [upB_snoc, hup, Bool.true_and]
        refine decide_eq_true ?_
        rcases h3 with rfl | ⟨j, hj, rfl, h4⟩
        · simp; omega
        · rw [List.take_succ_eq_append_getElem hj, List.getLastD_concat]; exact h4
    by_cases c1 : inI l[i] 0 (pinsN r.rows - 1) = true
    · by_cases c2 : i = 0
      · subst c2
        have := hnx c1 (.inl rfl)
        refine JC_skip ?_
        refine JE_seq ?_
        refine JC_seq ?_
        refine JC_block ?_
        refine JC_seq ?_
        refine JC_draw [] (by kernel_rfl) ?_
        refine JA_pd (i := 0) rfl (by kernel_rfl) rfl rfl (det_move rfl) ?_
        refine JA_pd (i := 1) rfl (by kernel_rfl) rfl rfl (det_move rfl) ?_
        refine JA_dt (i := 2) rfl (by kernel_rfl) (by kernel_rfl) rfl rfl (det_indexAddr rfl rfl (by first | rfl | omega) (by first | assumption | omega | decide) Tryz.runUnderlying31 Tryz.sizeOf3) ?_
        refine JA_dt (i := 3) rfl (by kernel_rfl) (by kernel_rfl) rfl rfl (det_loadE rfl (by first | assumption | omega | decide) Tryz.isAgg3 rfl rfl) ?_
        refine JA_dt (i := 4) rfl (by kernel_rfl) (by kernel_rfl) rfl rfl (det_loadKA rfl Tryz.isAgg30 Tryz.sizeOf30 rfl rfl) ?_
        refine JA_one (i := 5) (by kernel_rfl) rfl rfl (jo_callv rfl rfl Tryz.call43 rfl (Pins_j r a c ⟨r0, r1⟩)) (fun _ => ⟨hsub_refl, fun _ h => h⟩) fun _ => ?_
        refine JA_pd (i := 6) rfl (by kernel_rfl) rfl rfl (det_sub rfl rfl ⟨by omega, by omega⟩) ?_
        refine JA_one (i := 7) (by kernel_rfl) rfl rfl (jo_callv rfl rfl Tryz.call42 rfl (In_j _ _ _)) (fun _ => ⟨hsub_refl, fun _ h => h⟩) fun _ => ?_
        refine JA_pd (i := 8) rfl (by kernel_rfl) rfl rfl (det_not rfl) ?_
        refine JA_pd (i := 9) rfl (by kernel_rfl) rfl rfl (det_move rfl) ?_
        -- stop: guard 9
        refine JA_is (d0 := 21) false rfl (by rw [c1]; rfl) (fun g1 => ?_)
        refine JA_gpd (i := 10) rfl (by kernel_rfl) rfl rfl rfl rfl g1 (det_move rfl) ?_
        refine JA_gpd (i := 11) rfl (by kernel_rfl) rfl rfl rfl rfl g1 (det_gtr rfl rfl) ?_
        refine JA_gpd (i := 12) rfl (by kernel_rfl) rfl rfl rfl rfl g1 (det_move rfl) ?_
        -- stop: guard 12
        refine JA_is (d0 := 24) false rfl (by rfl) (fun g2 => ?_)
        refine JA_skip (i := 13) rfl (by kernel_rfl) rfl rfl rfl rfl g2 ?_
        refine JA_skip (i := 14) rfl (by kernel_rfl) rfl rfl rfl rfl g2 ?_
        refine JA_skip (i := 15) rfl (by kernel_rfl) rfl rfl rfl rfl g2 ?_
        refine JA_skip (i := 16) rfl (by kernel_rfl) rfl rfl rfl rfl g2 ?_
        refine JA_skip (i := 17) rfl (by kernel_rfl) rfl rfl rfl rfl g2 ?_
        refine JA_skip (i := 18) rfl (by kernel_rfl) rfl rfl rfl rfl g2 ?_
        refine JA_skip (i := 19) rfl (by kernel_rfl) rfl rfl rfl rfl g2 ?_
        refine JA_skip (i := 20) rfl (by kernel_rfl) rfl rfl rfl rfl g2 ?_
        refine JA_skip (i := 21) rfl (by kernel_rfl) rfl rfl rfl rfl g2 ?_
        refine JA_skip (i := 22) rfl (by kernel_rfl) rfl rfl rfl rfl g2 ?_
        refine JA_gpd (i := 23) rfl (by kernel_rfl) rfl rfl rfl rfl g1 (det_pick_f rfl g2 rfl) ?_
        refine JA_pd (i := 24) rfl (by kernel_rfl) rfl rfl (det_pick_f rfl g1 rfl) ?_
        refine JA_done (by kernel_rfl) ?_
        refine JE_seq ?_
        refine JC_condF rfl rfl ?_
        refine JC_skip ?_
        refine JE_block ?_
        refine JE_seq ?_
        refine JC_region ?_
        refine JL_pd rfl (det_move rfl) ?_
        refine JL_pd rfl (det_add rfl rfl ⟨by omega, by omega⟩) ?_
        refine JL_pd rfl (det_assign rfl) ?_
        refine JL_nil ?_
        -- stop: end
        refine JE_roundF hK (0 + 1) ⟨by omega, this.1, this.2⟩ (by omega) (stsub_consI rfl (by omega) stsub_nil) ht_nil
      · obtain ⟨j, rfl⟩ : ∃ j, i = j + 1 := ⟨i - 1, by omega⟩
        have hj2 : j < l.length := by omega
        refine JC_skip ?_
        refine JE_seq ?_
        refine JC_seq ?_
        refine JC_block ?_
        refine JC_seq ?_
        refine JC_draw [] (by kernel_rfl) ?_
        refine JA_pd (i := 0) rfl (by kernel_rfl) rfl rfl (det_move rfl) ?_
        refine JA_pd (i := 1) rfl (by kernel_rfl) rfl rfl (det_move rfl) ?_
        refine JA_dt (i := 2) rfl (by kernel_rfl) (by kernel_rfl) rfl rfl (det_indexAddr rfl rfl (by first | rfl | omega) (by first | assumption | omega | decide) Tryz.runUnderlying31 Tryz.sizeOf3) ?_
        refine JA_dt (i := 3) rfl (by kernel_rfl) (by kernel_rfl) rfl rfl (det_loadE rfl (by first | assumption | omega | decide) Tryz.isAgg3 rfl rfl) ?_
        refine JA_dt (i := 4) rfl (by kernel_rfl) (by kernel_rfl) rfl rfl (det_loadKA rfl Tryz.isAgg30 Tryz.sizeOf30 rfl rfl) ?_
        refine JA_one (i := 5) (by kernel_rfl) rfl rfl (jo_callv rfl rfl Tryz.call43 rfl (Pins_j r a c ⟨r0, r1⟩)) (fun _ => ⟨hsub_refl, fun _ h => h⟩) fun _ => ?_
        refine JA_pd (i := 6) rfl (by kernel_rfl) rfl rfl (det_sub rfl rfl ⟨by omega, by omega⟩) ?_
        refine JA_one (i := 7) (by kernel_rfl) rfl rfl (jo_callv rfl rfl Tryz.call42 rfl (In_j _ _ _)) (fun _ => ⟨hsub_refl, fun _ h => h⟩) fun _ => ?_
        refine JA_pd (i := 8) rfl (by kernel_rfl) rfl rfl (det_not rfl) ?_
        refine JA_pd (i := 9) rfl (by kernel_rfl) rfl rfl (det_move rfl) ?_
        -- stop: guard 9
        refine JA_is (d0 := 21) false rfl (by rw [c1]; rfl) (fun g1 => ?_)
        refine JA_gpd (i := 10) rfl (by kernel_rfl) rfl rfl rfl rfl g1 (det_move rfl) ?_
        refine JA_gpd (i := 11) rfl (by kernel_rfl) rfl rfl rfl rfl g1 (det_gtr rfl rfl) ?_
        refine JA_gpd (i := 12) rfl (by kernel_rfl) rfl rfl rfl rfl g1 (det_move rfl) ?_
        -- stop: guard 12
        refine JA_is (d0 := 24) true rfl (by exact decide_eq_true (by omega)) (fun g2 => ?_)
        refine JA_gpd (i := 13) rfl (by kernel_rfl) rfl rfl rfl rfl g2 (det_move rfl) ?_
        refine JA_gpd (i := 14) rfl (by kernel_rfl) rfl rfl rfl rfl g2 (det_move rfl) ?_
        refine JA_gdt (i := 15) rfl (by kernel_rfl) (by kernel_rfl) rfl rfl rfl rfl g2 (det_indexAddr rfl rfl (by first | rfl | omega) (by first | assumption | omega | decide) Tryz.runUnderlying31 Tryz.sizeOf3) ?_
        refine JA_gdt (i := 16) rfl (by kernel_rfl) (by kernel_rfl) rfl rfl rfl rfl g2 (det_loadE rfl (by first | assumption | omega | decide) Tryz.isAgg3 rfl rfl) ?_
        refine JA_gpd (i := 17) rfl (by kernel_rfl) rfl rfl rfl rfl g2 (det_move rfl) ?_
        refine JA_gpd (i := 18) rfl (by kernel_rfl) rfl rfl rfl rfl g2 (det_move rfl) ?_
        refine JA_gpd (i := 19) rfl (by kernel_rfl) rfl rfl rfl rfl g2 (det_sub rfl rfl ⟨by omega, by omega⟩) ?_
        refine JA_gdt (i := 20) rfl (by kernel_rfl) (by kernel_rfl) rfl rfl rfl rfl g2 (det_indexAddr (i := j) rfl rfl (by omega) (by omega) Tryz.runUnderlying31 Tryz.sizeOf3) ?_
        refine JA_gdt (i := 21) rfl (by kernel_rfl) (by kernel_rfl) rfl rfl rfl rfl g2 (det_loadE rfl (by first | assumption | omega | decide) Tryz.isAgg3 rfl rfl) ?_
        refine JA_gpd (i := 22) rfl (by kernel_rfl) rfl rfl rfl rfl g2 (det_leq rfl rfl) ?_
        refine JA_gpd (i := 23) rfl (by kernel_rfl) rfl rfl rfl rfl g1 (det_pick_t rfl g2 rfl) ?_
        refine JA_pd (i := 24) rfl (by kernel_rfl) rfl rfl (det_pick_f rfl g1 rfl) ?_
        refine JA_done (by kernel_rfl) ?_
        refine JE_seq ?_
        -- stop: cond
        refine JC_cond rfl (fun h3 => ?_) (fun h3 => ?_)
        · refine JC_seq ?_
          refine JC_region ?_
          refine JL_pd rfl (det_assign rfl) ?_
          refine JL_nil ?_
          refine JE_seq ?_
          refine JC_ret ?_
          refine JE_block_ret ?_
          refine JE_seq_ret ?_
          refine JE_then_ret ?_
          refine JE_block_ret ?_
          refine JE_seq_ret ?_
          -- stop: out
          refine JE_out (.inl rfl) ⟨false, fun h => by cases h⟩ (results1 Tryz.results10 (res_tmp rfl)) rfl (List.Perm.refl _) (fun _ _ => trivial)
        · have h4 := of_decide_eq_false h3
          have := hnx c1 (.inr ⟨j, hj2, rfl, by omega⟩)
          refine JC_skip ?_
          refine JE_block ?_
          refine JE_seq ?_
          refine JC_region ?_
          refine JL_pd rfl (det_move rfl) ?_
          refine JL_pd rfl (det_add rfl rfl ⟨by omega, by omega⟩) ?_
          refine JL_pd rfl (det_assign rfl) ?_
          refine JL_nil ?_
          -- stop: end
          refine JE_roundF hK (j + 1 + 1) ⟨by omega, this.1, this.2⟩ (by omega) (stsub_consI rfl (by omega) stsub_nil) ht_nil
    · refine JC_skip ?_
      refine JE_seq ?_
      refine JC_seq ?_
      refine JC_block ?_
      refine JC_seq ?_
      refine JC_draw [] (by kernel_rfl) ?_
      refine JA_pd (i := 0) rfl (by kernel_rfl) rfl rfl (det_move rfl) ?_
      refine JA_pd (i := 1) rfl (by kernel_rfl) rfl rfl (det_move rfl) ?_
      refine JA_dt (i := 2) rfl (by kernel_rfl) (by kernel_rfl) rfl rfl (det_indexAddr rfl rfl (by first | rfl | omega) (by first | assumption | omega | decide) Tryz.runUnderlying31 Tryz.sizeOf3) ?_
      refine JA_dt (i := 3) rfl (by kernel_rfl) (by kernel_rfl) rfl rfl (det_loadE rfl (by first | assumption | omega | decide) Tryz.isAgg3 rfl rfl) ?_
      refine JA_dt (i := 4) rfl (by kernel_rfl) (by kernel_rfl) rfl rfl (det_loadKA rfl Tryz.isAgg30 Tryz.sizeOf30 rfl rfl) ?_
      refine JA_one (i := 5) (by kernel_rfl) rfl rfl (jo_callv rfl rfl Tryz.call43 rfl (Pins_j r a c ⟨r0, r1⟩)) (fun _ => ⟨hsub_refl, fun _ h => h⟩) fun _ => ?_
      refine JA_pd (i := 6) rfl (by kernel_rfl) rfl rfl (det_sub rfl rfl ⟨by omega, by omega⟩) ?_
      refine JA_one (i := 7) (by kernel_rfl) rfl rfl (jo_callv rfl rfl Tryz.call42 rfl (In_j _ _ _)) (fun _ => ⟨hsub_refl, fun _ h => h⟩) fun _ => ?_
      refine JA_pd (i := 8) rfl (by kernel_rfl) rfl rfl (det_not rfl) ?_
      refine JA_pd (i := 9) rfl (by kernel_rfl) rfl rfl (det_move rfl) ?_
      -- stop: guard 9
      refine JA_is (d0 := 21) true rfl (by simpa using c1) (fun g1 => ?_)
      refine JA_skip (i := 10) rfl (by kernel_rfl) rfl rfl rfl rfl g1 ?_
      refine JA_skip (i := 11) rfl (by kernel_rfl) rfl rfl rfl rfl g1 ?_
      refine JA_skip (i := 12) rfl (by kernel_rfl) rfl rfl rfl rfl g1 ?_
      refine JA_skipU (i := 13) rfl (by kernel_rfl) rfl rfl rfl rfl ?_
      refine JA_skipU (i := 14) rfl (by kernel_rfl) rfl rfl rfl rfl ?_
      refine JA_skipU (i := 15) rfl (by kernel_rfl) rfl rfl rfl rfl ?_
      refine JA_skipU (i := 16) rfl (by kernel_rfl) rfl rfl rfl rfl ?_
      refine JA_skipU (i := 17) rfl (by kernel_rfl) rfl rfl rfl rfl ?_
      refine JA_skipU (i := 18) rfl (by kernel_rfl) rfl rfl rfl rfl ?_
      refine JA_skipU (i := 19) rfl (by kernel_rfl) rfl rfl rfl rfl ?_
      refine JA_skipU (i := 20) rfl (by kernel_rfl) rfl rfl rfl rfl ?_
      refine JA_skipU (i := 21) rfl (by kernel_rfl) rfl rfl rfl rfl ?_
      refine JA_skipU (i := 22) rfl (by kernel_rfl) rfl rfl rfl rfl ?_
      refine JA_skip (i := 23) rfl (by kernel_rfl) rfl rfl rfl rfl g1 ?_
      refine JA_pd (i := 24) rfl (by kernel_rfl) rfl rfl (det_pick_t rfl g1 rfl) ?_
      refine JA_done (by kernel_rfl) ?_
      refine JE_seq ?_
      refine JC_condT rfl rfl ?_
      refine JC_seq ?_
      refine JC_region ?_
      refine JL_pd rfl (det_assign rfl) ?_
      refine JL_nil ?_
      refine JE_seq ?_
      refine JC_ret ?_
      refine JE_block_ret ?_
      refine JE_seq_ret ?_
      refine JE_then_ret ?_
      refine JE_block_ret ?_
      refine JE_seq_ret ?_
      -- stop: out
      refine JE_out (.inl rfl) ⟨false, fun h => by cases h⟩ (results1 Tryz.results10 (res_tmp rfl)) rfl (List.Perm.refl _) (fun _ _ => trivial)
  · obtain rfl : i = l.length := by omega
    rw [List.take_length] at hin hup
    refine JC_exit ?_
    refine JE_seq_exit ?_
    refine JE_then_exit ?_
    refine JE_block_here ?_
    refine JE_seq ?_
    refine JC_seq ?_
    refine JC_region ?_
    refine JL_pd rfl (det_assign rfl) ?_
    refine JL_nil ?_
    refine JE_seq ?_
    refine JC_ret ?_
    -- stop: out
    refine JE_out (.inl rfl) ⟨true, fun _ => ⟨hin, hup⟩⟩ (results1 Tryz.results10 (res_tmp rfl)) rfl (List.Perm.refl _) (fun _ _ => trivial)
theorem sub_ok {lo hi : Int} (h1 : (!inI lo 0 hi) = false) (h2 : decide (60 < hi) = false) : InI (hi - lo) := by
  have a1 := inI_iff.1 (by simpa using h1)
  have a2 := of_decide_eq_false h2
  exact ⟨by omega, by omega⟩
set_option maxRecDepth 100000 in
set_option maxHeartbeats 1000000 in
theorem IsBall_j (r : Rk) (a : Option Addr) (c : Nat) (ba : Option Addr) (bc : Nat) (ball : List Rg) : Cr Tryz.prog 17 [vRk r a c, .slice ba ball.length bc] (KSl ba ball.length bc encRg ball) (fun q : {b : Bool // b = true → VB r ball} => .bool q.1) (fun _ => KTrue) := by
  refine Cx_of Tryz.func17 rfl Tryz.ntmps17 rfl fun w0 M0 => ?_
  refine JC_seq ?_
  refine JC_region ?_
  refine JL_step rfl rfl rfl (jo_box rfl rfl) fun b2 => ?_
  refine JL_pd rfl (det_assign rfl) ?_
  refine JL_nil ?_
  refine JE_seq ?_
  refine JC_seq ?_
  refine JC_seq ?_
  refine JC_region ?_
  refine JL_pd rfl (det_assign rfl) ?_
  refine JL_nil ?_
  refine JE_seq ?_
  refine JC_block ?_
  -- stop: loop
  refine JC_pure (p := ball.length ≤ 9223372036854775807) (by intro w h; exact h.1.bd) fun hz => ?_
  refine JC_loopF (γ := Nat) (fun i => i ≤ ball.length ∧ ∀ b ∈ ball.take i, bOk b = true) (fun i => [(5, I i)]) (fun _ => []) (fun i => ball.length - i) 0 ⟨Nat.zero_le _, fun x hx => by simp at hx⟩ (stsub_consI rfl rfl stsub_nil) ht_nil ?_
  rintro i ⟨hi, hin⟩ K hK
  dsimp only [List.cons_append, List.nil_append]
  refine JC_seq ?_
  refine JC_seq ?_
  refine JC_region ?_
  refine JL_pd rfl (det_move rfl) ?_
  refine JL_pd rfl (det_move rfl) ?_
  refine JL_pd rfl (det_len rfl Tryz.runUnderlying52) ?_
  refine JL_pd rfl (det_lss rfl rfl) ?_
  refine JL_nil ?_
  refine JE_seq ?_
  -- stop: cond
  refine JC_if rfl (fun h1 => ?_) (fun h1 => ?_)
  · have hi2 : i < ball.length := by omega
    refine JC_skip ?_
    refine JE_seq ?_
    refine JC_seq ?_
    refine JC_block ?_
    refine JC_seq ?_
    refine JC_draw [] (by kernel_rfl) ?_
    refine JA_pd (i := 0) rfl (by kernel_rfl) rfl rfl (det_move rfl) ?_
    refine JA_pd (i := 1) rfl (by kernel_rfl) rfl rfl (det_move rfl) ?_
    refine JA_dt (i := 2) rfl (by kernel_rfl) (by kernel_rfl) rfl rfl (det_indexAddr rfl rfl (by first | rfl | omega) (by first | assumption | omega | decide) Tryz.runUnderlying52 Tryz.sizeOf56) ?_
    refine JA_pd (i := 3) rfl (by kernel_rfl) rfl rfl (det_fieldAddrE rfl fo_56_0) ?_
    refine JA_dt (i := 4) rfl (by kernel_rfl) (by kernel_rfl) rfl rfl (det_loadEk rfl (by first | assumption | omega | decide) Tryz.isAgg3 rfl rfl) ?_
    refine JA_pd (i := 5) rfl (by kernel_rfl) rfl rfl (det_move rfl) ?_
    refine JA_pd (i := 6) rfl (by kernel_rfl) rfl rfl (det_move rfl) ?_
    refine JA_dt (i := 7) rfl (by kernel_rfl) (by kernel_rfl) rfl rfl (det_indexAddr rfl rfl (by first | rfl | omega) (by first | assumption | omega | decide) Tryz.runUnderlying52 Tryz.sizeOf56) ?_
    refine JA_pd (i := 8) rfl (by kernel_rfl) rfl rfl (det_fieldAddrE rfl fo_56_1) ?_
    refine JA_dt (i := 9) rfl (by kernel_rfl) (by kernel_rfl) rfl rfl (det_loadEk rfl (by first | assumption | omega | decide) Tryz.isAgg3 rfl rfl) ?_
    refine JA_one (i := 10) (by kernel_rfl) rfl rfl (jo_callv rfl rfl Tryz.call42 rfl (In_j _ _ _)) (fun _ => ⟨hsub_refl, fun _ h => h⟩) fun _ => ?_
    refine JA_pd (i := 11) rfl (by kernel_rfl) rfl rfl (det_not rfl) ?_
    refine JA_pd (i := 12) rfl (by kernel_rfl) rfl rfl (det_move rfl) ?_
    -- stop: guard 12
    refine JA_split (d0 := 24) rfl (fun g1 => ?_) (fun g1 => ?_)
    · refine JA_skip (i := 13) rfl (by kernel_rfl) rfl rfl rfl rfl g1 ?_
      refine JA_skip (i := 14) rfl (by kernel_rfl) rfl rfl rfl rfl g1 ?_
      refine JA_skip (i := 15) rfl (by kernel_rfl) rfl rfl rfl rfl g1 ?_
      refine JA_skip (i := 16) rfl (by kernel_rfl) rfl rfl rfl rfl g1 ?_
      refine JA_skip (i := 17) rfl (by kernel_rfl) rfl rfl rfl rfl g1 ?_
      refine JA_skip (i := 18) rfl (by kernel_rfl) rfl rfl rfl rfl g1 ?_
      refine JA_pd (i := 19) rfl (by kernel_rfl) rfl rfl (det_pick_t rfl g1 rfl) ?_
      refine JA_pd (i := 20) rfl (by kernel_rfl) rfl rfl (det_move rfl) ?_
      refine JA_skip (i := 21) rfl (by kernel_rfl) rfl rfl rfl rfl rfl ?_
      refine JA_skip (i := 22) rfl (by kernel_rfl) rfl rfl rfl rfl rfl ?_
      refine JA_skip (i := 23) rfl (by kernel_rfl) rfl rfl rfl rfl rfl ?_
      refine JA_skip (i := 24) rfl (by kernel_rfl) rfl rfl rfl rfl rfl ?_
      refine JA_skip (i := 25) rfl (by kernel_rfl) rfl rfl rfl rfl rfl ?_
      refine JA_skip (i := 26) rfl (by kernel_rfl) rfl rfl rfl rfl rfl ?_
      refine JA_skip (i := 27) rfl (by kernel_rfl) rfl rfl rfl rfl rfl ?_
      refine JA_skip (i := 28) rfl (by kernel_rfl) rfl rfl rfl rfl rfl ?_
      refine JA_skip (i := 29) rfl (by kernel_rfl) rfl rfl rfl rfl rfl ?_
      refine JA_skip (i := 30) rfl (by kernel_rfl) rfl rfl rfl rfl rfl ?_
      refine JA_skip (i := 31) rfl (by kernel_rfl) rfl rfl rfl rfl rfl ?_
      refine JA_skip (i := 32) rfl (by kernel_rfl) rfl rfl rfl rfl rfl ?_
      refine JA_pd (i := 33) rfl (by kernel_rfl) rfl rfl (det_pick_t rfl rfl rfl) ?_
      refine JA_done (by kernel_rfl) ?_
      refine JE_seq ?_
      refine JC_condT rfl rfl ?_
      refine JC_seq ?_
      refine JC_region ?_
      refine JL_pd rfl (det_assign rfl) ?_
      refine JL_nil ?_
      refine JE_seq ?_
      refine JC_ret ?_
      refine JE_block_ret ?_
      refine JE_seq_ret ?_
      refine JE_then_ret ?_
      refine JE_block_ret ?_
      refine JE_seq_ret ?_
      -- stop: out
      refine JE_out (.inl rfl) ⟨false, fun h => by cases h⟩ (results1 Tryz.results17 (res_tmp rfl)) rfl (List.Perm.refl _) (fun _ _ => trivial)
    · refine JA_gpd (i := 13) rfl (by kernel_rfl) rfl rfl rfl rfl g1 (det_move rfl) ?_
      refine JA_gpd (i := 14) rfl (by kernel_rfl) rfl rfl rfl rfl g1 (det_move rfl) ?_
      refine JA_gdt (i := 15) rfl (by kernel_rfl) (by kernel_rfl) rfl rfl rfl rfl g1 (det_indexAddr rfl rfl (by first | rfl | omega) (by first | assumption | omega | decide) Tryz.runUnderlying52 Tryz.sizeOf56) ?_
      refine JA_gpd (i := 16) rfl (by kernel_rfl) rfl rfl rfl rfl g1 (det_fieldAddrE rfl fo_56_1) ?_
      refine JA_gdt (i := 17) rfl (by kernel_rfl) (by kernel_rfl) rfl rfl rfl rfl g1 (det_loadEk rfl (by first | assumption | omega | decide) Tryz.isAgg3 rfl rfl) ?_
      refine JA_gpd (i := 18) rfl (by kernel_rfl) rfl rfl rfl rfl g1 (det_gtr rfl rfl) ?_
      refine JA_pd (i := 19) rfl (by kernel_rfl) rfl rfl (det_pick_f rfl g1 rfl) ?_
      refine JA_pd (i := 20) rfl (by kernel_rfl) rfl rfl (det_move rfl) ?_
      -- stop: guard 20
      refine JA_split (d0 := 32) rfl (fun g2 => ?_) (fun g2 => ?_)
      · refine JA_skip (i := 21) rfl (by kernel_rfl) rfl rfl rfl rfl g2 ?_
        refine JA_skip (i := 22) rfl (by kernel_rfl) rfl rfl rfl rfl g2 ?_
        refine JA_skip (i := 23) rfl (by kernel_rfl) rfl rfl rfl rfl g2 ?_
        refine JA_skip (i := 24) rfl (by kernel_rfl) rfl rfl rfl rfl g2 ?_
        refine JA_skip (i := 25) rfl (by kernel_rfl) rfl rfl rfl rfl g2 ?_
        refine JA_skip (i := 26) rfl (by kernel_rfl) rfl rfl rfl rfl g2 ?_
        refine JA_skip (i := 27) rfl (by kernel_rfl) rfl rfl rfl rfl g2 ?_
        refine JA_skip (i := 28) rfl (by kernel_rfl) rfl rfl rfl rfl g2 ?_
        refine JA_skip (i := 29) rfl (by kernel_rfl) rfl rfl rfl rfl g2 ?_
        refine JA_skip (i := 30) rfl (by kernel_rfl) rfl rfl rfl rfl g2 ?_
        refine JA_skip (i := 31) rfl (by kernel_rfl) rfl rfl rfl rfl g2 ?_
        refine JA_skip (i := 32) rfl (by kernel_rfl) rfl rfl rfl rfl g2 ?_
        refine JA_pd (i := 33) rfl (by kernel_rfl) rfl rfl (det_pick_t rfl g2 rfl) ?_
        refine JA_done (by kernel_rfl) ?_
        refine JE_seq ?_
        refine JC_condT rfl rfl ?_
        refine JC_seq ?_
        refine JC_region ?_
        refine JL_pd rfl (det_assign rfl) ?_
        refine JL_nil ?_
        refine JE_seq ?_
        refine JC_ret ?_
        refine JE_block_ret ?_
        refine JE_seq_ret ?_
        refine JE_then_ret ?_
        refine JE_block_ret ?_
        refine JE_seq_ret ?_
        -- stop: out
        refine JE_out (.inl rfl) ⟨false, fun h => by cases h⟩ (results1 Tryz.results17 (res_tmp rfl)) rfl (List.Perm.refl _) (fun _ _ => trivial)
      · refine JA_gpd (i := 21) rfl (by kernel_rfl) rfl rfl rfl rfl g2 (det_move rfl) ?_
        refine JA_gpd (i := 22) rfl (by kernel_rfl) rfl rfl rfl rfl g2 (det_move rfl) ?_
        refine JA_gdt (i := 23) rfl (by kernel_rfl) (by kernel_rfl) rfl rfl rfl rfl g2 (det_indexAddr rfl rfl (by first | rfl | omega) (by first | assumption | omega | decide) Tryz.runUnderlying52 Tryz.sizeOf56) ?_
        refine JA_gpd (i := 24) rfl (by kernel_rfl) rfl rfl rfl rfl g2 (det_fieldAddrE rfl fo_56_1) ?_
        refine JA_gdt (i := 25) rfl (by kernel_rfl) (by kernel_rfl) rfl rfl rfl rfl g2 (det_loadEk rfl (by first | assumption | omega | decide) Tryz.isAgg3 rfl rfl) ?_
        refine JA_gpd (i := 26) rfl (by kernel_rfl) rfl rfl rfl rfl g2 (det_move rfl) ?_
        refine JA_gpd (i := 27) rfl (by kernel_rfl) rfl rfl rfl rfl g2 (det_move rfl) ?_
        refine JA_gdt (i := 28) rfl (by kernel_rfl) (by kernel_rfl) rfl rfl rfl rfl g2 (det_indexAddr rfl rfl (by first | rfl | omega) (by first | assumption | omega | decide) Tryz.runUnderlying52 Tryz.sizeOf56) ?_
        refine JA_gpd (i := 29) rfl (by kernel_rfl) rfl rfl rfl rfl g2 (det_fieldAddrE rfl fo_56_0) ?_
        refine JA_gdt (i := 30) rfl (by kernel_rfl) (by kernel_rfl) rfl rfl rfl rfl g2 (det_loadEk rfl (by first | assumption | omega | decide) Tryz.isAgg3 rfl rfl) ?_
        refine JA_gpd (i := 31) rfl (by kernel_rfl) rfl rfl rfl rfl g2 (det_sub rfl rfl (sub_ok (by assumption) (by assumption))) ?_
        refine JA_gpd (i := 32) rfl (by kernel_rfl) rfl rfl rfl rfl g2 (det_gtr rfl rfl) ?_
        refine JA_pd (i := 33) rfl (by kernel_rfl) rfl rfl (det_pick_f rfl g2 rfl) ?_
        refine JA_done (by kernel_rfl) ?_
        refine JE_seq ?_
        -- stop: cond
        refine JC_cond rfl (fun g3 => ?_) (fun g3 => ?_)
        · refine JC_seq ?_
          refine JC_region ?_
          refine JL_pd rfl (det_assign rfl) ?_
          refine JL_nil ?_
          refine JE_seq ?_
          refine JC_ret ?_
          refine JE_block_ret ?_
          refine JE_seq_ret ?_
          refine JE_then_ret ?_
          refine JE_block_ret ?_
          refine JE_seq_ret ?_
          -- stop: out
          refine JE_out (.inl rfl) ⟨false, fun h => by cases h⟩ (results1 Tryz.results17 (res_tmp rfl)) rfl (List.Perm.refl _) (fun _ _ => trivial)
        · have h2 : bOk ball[i] = true := bOk_iff.2 (by
            have a1 := inI_iff.1 (by simpa using g1 : inI ball[i].lo 0 ball[i].hi = true)
            have a2 := of_decide_eq_false g2
            have a3 := of_decide_eq_false g3
            omega)
          refine JC_skip ?_
          refine JE_block ?_
          refine JE_seq ?_
          refine JC_region ?_
          refine JL_pd rfl (det_move rfl) ?_
          refine JL_pd rfl (det_add rfl rfl ⟨by omega, by omega⟩) ?_
          refine JL_pd rfl (det_assign rfl) ?_
          refine JL_nil ?_
          -- stop: end
          refine JE_roundF hK (i + 1) ⟨by omega, fun b hb => ?_⟩ (by omega) (stsub_consI rfl (by omega) stsub_nil) ht_nil
          rw [List.take_succ_eq_append_getElem hi2] at hb
          rcases List.mem_append.1 hb with hb | hb
          · exact hin b hb
          · rw [List.mem_singleton.1 hb]; exact h2
  · obtain rfl : i = ball.length := by omega
    rw [List.take_length] at hin
    refine JC_exit ?_
    refine JE_seq_exit ?_
    refine JE_then_exit ?_
    refine JE_block_here ?_
    refine JE_seq ?_
    refine JC_seq ?_
    refine JC_region ?_
    refine JL_pd rfl (det_move rfl) ?_
    refine JL_pd rfl (det_len rfl Tryz.runUnderlying52) ?_
    refine JL_pd rfl (det_fieldAddr rfl fo_30_0) ?_
    refine JL_dt rfl (det_loadK rfl Tryz.isAgg3 rfl) ?_
    refine JL_pd rfl (det_eql rfl rfl) ?_
    refine JL_pd rfl (det_assign rfl) ?_
    refine JL_nil ?_
    refine JE_seq ?_
    refine JC_ret ?_
    -- stop: out
    refine JE_out (.inl rfl) ⟨decide ((ball.length : Int) = r.rows), fun h => ⟨of_decide_eq_true h, hin⟩⟩ (results1 Tryz.results17 (res_tmp rfl)) rfl (List.Perm.refl _) (fun _ _ => trivial)
end Go.Proofs.YthpkgabckklojaaGreat.Rk

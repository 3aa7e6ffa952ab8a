/- Rack: whether a rack is valid; places of pins; sets as lists. -/
import Derived.Test.YthpkgabckklojaaGreatS5
set_option linter.unusedSimpArgs false
set_option linter.unusedVariables false
namespace Go.Proofs.YthpkgabckklojaaGreat.Rk
open Go.RowKit Go.Shelf

set_option maxRecDepth 100000 in
set_option maxHeartbeats 1000000 in
theorem CheckRack_j (r : Rk) (a : Option Addr) (c : Nat) : Cv Tryz.prog 112 [vRk r a c] (KRk r a c) (I (rFault r)) := by
  refine Cx_of Tryz.func112 rfl Tryz.ntmps112 rfl fun w0 M0 => ?_
  refine JC_seq ?_
  refine JC_region ?_
  refine JL_step rfl rfl rfl (jo_box rfl rfl) fun b1 => ?_
  refine JL_pd rfl (det_assign rfl) ?_
  refine JL_nil ?_
  refine JE_seq ?_
  refine JC_seq ?_
  refine JC_region ?_
  refine JL_pd rfl (det_assign rfl) ?_
  refine JL_nil ?_
  refine JE_seq ?_
  refine JC_seq ?_
  refine JC_seq ?_
  refine JC_region ?_
  refine JL_pd rfl (det_fieldAddr rfl fo_65_4) ?_
  refine JL_dt rfl (det_loadK rfl Tryz.isAgg63 rfl) ?_
  refine JL_pd rfl (det_len rfl Tryz.runUnderlying63) ?_
  refine JL_pd rfl (det_move rfl) ?_
  refine JL_nil ?_
  refine JE_seq ?_
  refine JC_block ?_
  -- stop: loop
  refine JC_pure (p := r.ls.length ≤ 9223372036854775807) (by intro w h; exact h.1.bd) fun hz => ?_
  refine JC_loopF (γ := Nat) (fun i => i ≤ r.ls.length) (fun i => [(9, I i), (3, I ((mayN (r.ls.take i) : Nat) : Int))]) (fun _ => []) (fun i => r.ls.length - i) 0 (Nat.zero_le _) (stsub_consI rfl rfl (stsub_consI rfl rfl stsub_nil)) ht_nil ?_
  intro i hi K hK
  dsimp only [List.cons_append, List.nil_append]
  refine JC_seq ?_
  refine JC_region ?_
  refine JL_pd rfl (det_lss rfl rfl) ?_
  refine JL_nil ?_
  refine JE_seq ?_
  refine JC_seq ?_
  -- stop: cond
  refine JC_if rfl (fun h1 => ?_) (fun h1 => ?_)
  · have hi2 : i < r.ls.length := by omega
    have hsn : mayN (r.ls.take (i + 1)) = mayN (r.ls.take i) + if r.ls[i].s = false then 1 else 0 := by
      unfold mayN
      rw [List.take_succ_eq_append_getElem hi2, List.countP_append, List.countP_cons, List.countP_nil, Nat.zero_add]
      cases r.ls[i].s <;> rfl
    have hml : mayN (r.ls.take i) ≤ i := by
      unfold mayN
      have := List.countP_le_length (p := fun l : Lk => !l.s) (l := r.ls.take i)
      rw [List.length_take] at this; omega
    refine JC_skip ?_
    refine JE_seq ?_
    refine JC_seq ?_
    refine JC_block ?_
    refine JC_seq ?_
    refine JC_region ?_
    refine JL_dt rfl (det_indexAddr rfl rfl (by first | rfl | omega) (by first | assumption | omega | decide) Tryz.runUnderlying63 Tryz.sizeOf141) ?_
    refine JL_dt rfl (det_loadEA rfl (by first | assumption | omega | decide) Tryz.isAgg141 Tryz.sizeOf141 rfl rfl rfl) ?_
    refine JL_step rfl rfl rfl (jo_alloc0 Tryz.zeroValue141 rfl) fun b5 => ?_
    refine JL_step0 rfl rfl (jo_store rfl rfl rfl (by first | (simp only [splice_norm]; done) | (simp only [splice_norm]; rfl) | rfl) Tryz.sizeOf141 rfl rfl) fun _ => ?_
    refine JL_nil ?_
    refine JE_seq ?_
    refine JC_seq ?_
    refine JC_region ?_
    refine JL_pd rfl (det_fieldAddr rfl fo_141_2) ?_
    refine JL_dt rfl (det_loadK rfl Tryz.isAgg4 rfl) ?_
    refine JL_pd rfl (det_not rfl) ?_
    refine JL_nil ?_
    refine JE_seq ?_
    -- stop: cond
    refine JC_cond rfl (fun h2 => ?_) (fun h2 => ?_)
    · have h3 : r.ls[i].s = false := by simpa using h2
      rw [if_pos h3] at hsn
      refine JC_region ?_
      refine JL_pd rfl (det_move rfl) ?_
      refine JL_pd rfl (det_add rfl rfl ⟨by omega, by omega⟩) ?_
      refine JL_pd rfl (det_assign rfl) ?_
      refine JL_nil ?_
      refine JE_block ?_
      refine JE_seq ?_
      refine JC_region ?_
      refine JL_pd rfl (det_add rfl rfl ⟨by omega, by omega⟩) ?_
      refine JL_pd rfl (det_move rfl) ?_
      refine JL_nil ?_
      -- stop: end
      refine JE_roundF hK (i + 1) (by omega) (by omega) (stsub_consI rfl (by omega) (stsub_consI rfl (by rw [hsn]; omega) stsub_nil)) ht_nil
    · have h3 : ¬ r.ls[i].s = false := by simpa using h2
      rw [if_neg h3] at hsn
      refine JC_skip ?_
      refine JE_block ?_
      refine JE_seq ?_
      refine JC_region ?_
      refine JL_pd rfl (det_add rfl rfl ⟨by omega, by omega⟩) ?_
      refine JL_pd rfl (det_move rfl) ?_
      refine JL_nil ?_
      -- stop: end
      refine JE_roundF hK (i + 1) (by omega) (by omega) (stsub_consI rfl (by omega) (stsub_consI rfl (by rw [hsn]; rfl) stsub_nil)) ht_nil
  · obtain rfl : i = r.ls.length := by omega
    rw [List.take_length]
    refine JC_exit ?_
    refine JE_seq_exit ?_
    refine JE_then_exit ?_
    refine JE_block_here ?_
    refine JE_seq ?_
    refine JC_seq ?_
    refine JC_block ?_
    refine JC_seq ?_
    refine JC_region ?_
    refine JL_pd rfl (det_fieldAddr rfl fo_65_4) ?_
    refine JL_dt rfl (det_loadK rfl Tryz.isAgg63 rfl) ?_
    refine JL_pd rfl (det_len rfl Tryz.runUnderlying63) ?_
    refine JL_pd rfl (det_gtr rfl rfl) ?_
    refine JL_pd rfl (det_move rfl) ?_
    -- stop: guard 4
    refine JL_join1 4 19 (.bool (decide ((12 : Int) < (r.ls.length : Int)) || decide ((6 : Int) < ((mayN r.ls : Nat) : Int)))) (fun hj => ?_) ?_
    · refine JL_split (d0 := 24) rfl (fun q1 => ?_) (fun q1 => ?_)
      · refine JL_skip rfl rfl q1 rfl ?_
        refine JL_skip rfl rfl q1 rfl ?_
        refine JL_pd rfl (det_pick_t rfl q1 rfl) ?_
        refine JL_pd rfl (det_assign rfl) ?_
        exact hj (by kernel_rfl) (stsub_consB rfl (by clear hj; first | rfl | (simp only [q1, Bool.and_true, Bool.true_and, Bool.false_and, Bool.and_false, Bool.or_true, Bool.true_or, Bool.or_false, Bool.false_or, Bool.not_true, Bool.not_false]; done) | (simp [q1]; done) | (simp at q1; done) | (simp [q1] <;> omega) | (exfalso; simp at q1; omega)) stsub_nil)
      · refine JL_guard rfl rfl q1 ?_
        refine JL_pd rfl (det_move rfl) ?_
        refine JL_guard rfl rfl q1 ?_
        refine JL_pd rfl (det_gtr rfl rfl) ?_
        refine JL_pd rfl (det_pick_f rfl q1 rfl) ?_
        refine JL_pd rfl (det_assign rfl) ?_
        exact hj (by kernel_rfl) (stsub_consB rfl (by clear hj; first | rfl | (simp only [q1, Bool.and_true, Bool.true_and, Bool.false_and, Bool.and_false, Bool.or_true, Bool.true_or, Bool.or_false, Bool.false_or, Bool.not_true, Bool.not_false]; done) | (simp [q1]; done) | (simp at q1; done) | (simp [q1] <;> omega) | (exfalso; simp at q1; omega)) stsub_nil)
    refine JL_nil ?_
    refine JE_seq ?_
    -- stop: cond
    refine JC_cond rfl (fun h4 => ?_) (fun h4 => ?_)
    · have h5 : 12 < r.ls.length ∨ 6 < mayN r.ls := by
        simp only [Bool.or_eq_true, decide_eq_true_eq] at h4
        omega
      refine JC_seq ?_
      refine JC_region ?_
      refine JL_pd rfl (det_assign rfl) ?_
      refine JL_nil ?_
      refine JE_seq ?_
      refine JC_ret ?_
      refine JE_block_ret ?_
      refine JE_seq_ret ?_
      -- stop: out
      refine JE_out (.inl rfl) () (results1 Tryz.results112 (res_tmp rfl)) (by unfold rFault; rw [if_pos h5]) (List.Perm.refl _) (fun _ _ => trivial)
    · have h5 : ¬ (12 < r.ls.length ∨ 6 < mayN r.ls) := by
        simp only [Bool.or_eq_false_iff, decide_eq_false_iff_not] at h4
        omega
      refine JC_seq ?_
      refine JC_region ?_
      refine JL_pd rfl (det_fieldAddr rfl fo_65_0) ?_
      refine JL_dt rfl (det_loadK rfl Tryz.isAgg3 rfl) ?_
      refine JL_step rfl rfl rfl (jo_callv rfl rfl Tryz.call58 rfl (kwithin_j _ _ _)) fun _ => ?_
      refine JL_pd rfl (det_not rfl) ?_
      refine JL_pd rfl (det_move rfl) ?_
      -- stop: guard 4
      by_cases hr : inI r.rows 1 4 = true
      · have hall := allL_j (lkOk r) 150 [vRk r a c] [] KTrue Tryz.call150 a c r.ls (fun l _ => link_j r a c (inI_iff.1 hr) l) hz
        refine JL_join1 26 28 (.bool (!(inI r.rows 1 4 && (inI r.mid 0 60 && (inI r.gap 1 8 && (inI r.rch 0 10 && r.ls.all (lkOk r))))))) (fun hj => ?_) ?_
        · refine JL_split (d0 := 33) rfl (fun q2 => ?_) (fun q2 => ?_)
          · refine JL_skip rfl rfl q2 rfl ?_
            refine JL_skip rfl rfl q2 rfl ?_
            refine JL_skip rfl rfl q2 rfl ?_
            refine JL_skip rfl rfl q2 rfl ?_
            refine JL_pd rfl (det_pick_t rfl q2 rfl) ?_
            refine JL_pd rfl (det_move rfl) ?_
            refine JL_split (d0 := 39) rfl (fun q3 => ?_) (fun q3 => ?_)
            · refine JL_skip rfl rfl q3 rfl ?_
              refine JL_skip rfl rfl q3 rfl ?_
              refine JL_skip rfl rfl q3 rfl ?_
              refine JL_skip rfl rfl q3 rfl ?_
              refine JL_pd rfl (det_pick_t rfl q3 rfl) ?_
              refine JL_pd rfl (det_move rfl) ?_
              refine JL_split (d0 := 45) rfl (fun q4 => ?_) (fun q4 => ?_)
              · refine JL_skip rfl rfl q4 rfl ?_
                refine JL_skip rfl rfl q4 rfl ?_
                refine JL_skip rfl rfl q4 rfl ?_
                refine JL_skip rfl rfl q4 rfl ?_
                refine JL_pd rfl (det_pick_t rfl q4 rfl) ?_
                refine JL_pd rfl (det_move rfl) ?_
                refine JL_split (d0 := 51) rfl (fun q5 => ?_) (fun q5 => ?_)
                · refine JL_skip rfl rfl q5 rfl ?_
                  refine JL_skip rfl rfl q5 rfl ?_
                  refine JL_skip rfl rfl q5 rfl ?_
                  refine JL_skip rfl rfl q5 rfl ?_
                  refine JL_skip rfl rfl q5 rfl ?_
                  refine JL_skip rfl rfl q5 rfl ?_
                  refine JL_pd rfl (det_pick_t rfl q5 rfl) ?_
                  refine JL_pd rfl (det_assign rfl) ?_
                  exact hj (by kernel_rfl) (stsub_consB rfl (by clear hj; first | rfl | (simp only [q2, q3, q4, q5, Bool.and_true, Bool.true_and, Bool.false_and, Bool.and_false, Bool.or_true, Bool.true_or, Bool.or_false, Bool.false_or, Bool.not_true, Bool.not_false]; done) | (simp [q2, q3, q4, q5]; done) | (simp at q2; done) | (simp at q3; done) | (simp at q4; done) | (simp at q5; done) | (simp [q2, q3, q4, q5] <;> omega) | (exfalso; simp at q2 q3 q4 q5; omega) | (simp [q3, q4, q5] at q2; done) | (simp [q2, q4, q5] at q3; done) | (simp [q2, q3, q5] at q4; done) | (simp [q2, q3, q4] at q5; done)) stsub_nil)
                · refine JL_guard rfl rfl q5 ?_
                  refine JL_pd rfl (det_fieldAddr rfl fo_65_4) ?_
                  refine JL_guard rfl rfl q5 ?_
                  refine JL_dt rfl (det_loadK rfl Tryz.isAgg63 rfl) ?_
                  refine JL_guard rfl rfl q5 ?_
                  refine JL_dt rfl (det_loadKA rfl Tryz.isAgg65 Tryz.sizeOf65 rfl rfl) ?_
                  refine JL_guard rfl rfl q5 ?_
                  refine JL_pd rfl (det_makeFuncE rfl rfl) ?_
                  refine JL_guard rfl rfl q5 ?_
                  refine JL_step rfl rfl rfl (jo_callv rfl rfl Tryz.call149 rfl (hall)) fun _ => ?_
                  refine JL_guard rfl rfl q5 ?_
                  refine JL_pd rfl (det_not rfl) ?_
                  refine JL_pd rfl (det_pick_f rfl q5 rfl) ?_
                  refine JL_pd rfl (det_assign rfl) ?_
                  exact hj (by kernel_rfl) (stsub_consB rfl (by clear hj; first | rfl | (simp only [q2, q3, q4, q5, Bool.and_true, Bool.true_and, Bool.false_and, Bool.and_false, Bool.or_true, Bool.true_or, Bool.or_false, Bool.false_or, Bool.not_true, Bool.not_false]; done) | (simp [q2, q3, q4, q5]; done) | (simp at q2; done) | (simp at q3; done) | (simp at q4; done) | (simp at q5; done) | (simp [q2, q3, q4, q5] <;> omega) | (exfalso; simp at q2 q3 q4 q5; omega) | (simp [q3, q4, q5] at q2; done) | (simp [q2, q4, q5] at q3; done) | (simp [q2, q3, q5] at q4; done) | (simp [q2, q3, q4] at q5; done)) stsub_nil)
              · refine JL_guard rfl rfl q4 ?_
                refine JL_pd rfl (det_fieldAddr rfl fo_65_3) ?_
                refine JL_guard rfl rfl q4 ?_
                refine JL_dt rfl (det_loadK rfl Tryz.isAgg3 rfl) ?_
                refine JL_guard rfl rfl q4 ?_
                refine JL_step rfl rfl rfl (jo_callv rfl rfl Tryz.call58 rfl (kwithin_j _ _ _)) fun _ => ?_
                refine JL_guard rfl rfl q4 ?_
                refine JL_pd rfl (det_not rfl) ?_
                refine JL_pd rfl (det_pick_f rfl q4 rfl) ?_
                refine JL_pd rfl (det_move rfl) ?_
                refine JL_split (d0 := 51) rfl (fun q6 => ?_) (fun q6 => ?_)
                · refine JL_skip rfl rfl q6 rfl ?_
                  refine JL_skip rfl rfl q6 rfl ?_
                  refine JL_skip rfl rfl q6 rfl ?_
                  refine JL_skip rfl rfl q6 rfl ?_
                  refine JL_skip rfl rfl q6 rfl ?_
                  refine JL_skip rfl rfl q6 rfl ?_
                  refine JL_pd rfl (det_pick_t rfl q6 rfl) ?_
                  refine JL_pd rfl (det_assign rfl) ?_
                  exact hj (by kernel_rfl) (stsub_consB rfl (by clear hj; first | rfl | (simp only [q2, q3, q4, q6, Bool.and_true, Bool.true_and, Bool.false_and, Bool.and_false, Bool.or_true, Bool.true_or, Bool.or_false, Bool.false_or, Bool.not_true, Bool.not_false]; done) | (simp [q2, q3, q4, q6]; done) | (simp at q2; done) | (simp at q3; done) | (simp at q4; done) | (simp at q6; done) | (simp [q2, q3, q4, q6] <;> omega) | (exfalso; simp at q2 q3 q4 q6; omega) | (simp [q3, q4, q6] at q2; done) | (simp [q2, q4, q6] at q3; done) | (simp [q2, q3, q6] at q4; done) | (simp [q2, q3, q4] at q6; done)) stsub_nil)
                · refine JL_guard rfl rfl q6 ?_
                  refine JL_pd rfl (det_fieldAddr rfl fo_65_4) ?_
                  refine JL_guard rfl rfl q6 ?_
                  refine JL_dt rfl (det_loadK rfl Tryz.isAgg63 rfl) ?_
                  refine JL_guard rfl rfl q6 ?_
                  refine JL_dt rfl (det_loadKA rfl Tryz.isAgg65 Tryz.sizeOf65 rfl rfl) ?_
                  refine JL_guard rfl rfl q6 ?_
                  refine JL_pd rfl (det_makeFuncE rfl rfl) ?_
                  refine JL_guard rfl rfl q6 ?_
                  refine JL_step rfl rfl rfl (jo_callv rfl rfl Tryz.call149 rfl (hall)) fun _ => ?_
                  refine JL_guard rfl rfl q6 ?_
                  refine JL_pd rfl (det_not rfl) ?_
                  refine JL_pd rfl (det_pick_f rfl q6 rfl) ?_
                  refine JL_pd rfl (det_assign rfl) ?_
                  exact hj (by kernel_rfl) (stsub_consB rfl (by clear hj; first | rfl | (simp only [q2, q3, q4, q6, Bool.and_true, Bool.true_and, Bool.false_and, Bool.and_false, Bool.or_true, Bool.true_or, Bool.or_false, Bool.false_or, Bool.not_true, Bool.not_false]; done) | (simp [q2, q3, q4, q6]; done) | (simp at q2; done) | (simp at q3; done) | (simp at q4; done) | (simp at q6; done) | (simp [q2, q3, q4, q6] <;> omega) | (exfalso; simp at q2 q3 q4 q6; omega) | (simp [q3, q4, q6] at q2; done) | (simp [q2, q4, q6] at q3; done) | (simp [q2, q3, q6] at q4; done) | (simp [q2, q3, q4] at q6; done)) stsub_nil)
            · refine JL_guard rfl rfl q3 ?_
              refine JL_pd rfl (det_fieldAddr rfl fo_65_2) ?_
              refine JL_guard rfl rfl q3 ?_
              refine JL_dt rfl (det_loadK rfl Tryz.isAgg3 rfl) ?_
              refine JL_guard rfl rfl q3 ?_
              refine JL_step rfl rfl rfl (jo_callv rfl rfl Tryz.call58 rfl (kwithin_j _ _ _)) fun _ => ?_
              refine JL_guard rfl rfl q3 ?_
              refine JL_pd rfl (det_not rfl) ?_
              refine JL_pd rfl (det_pick_f rfl q3 rfl) ?_
              refine JL_pd rfl (det_move rfl) ?_
              refine JL_split (d0 := 45) rfl (fun q7 => ?_) (fun q7 => ?_)
              · refine JL_skip rfl rfl q7 rfl ?_
                refine JL_skip rfl rfl q7 rfl ?_
                refine JL_skip rfl rfl q7 rfl ?_
                refine JL_skip rfl rfl q7 rfl ?_
                refine JL_pd rfl (det_pick_t rfl q7 rfl) ?_
                refine JL_pd rfl (det_move rfl) ?_
                refine JL_split (d0 := 51) rfl (fun q8 => ?_) (fun q8 => ?_)
                · refine JL_skip rfl rfl q8 rfl ?_
                  refine JL_skip rfl rfl q8 rfl ?_
                  refine JL_skip rfl rfl q8 rfl ?_
                  refine JL_skip rfl rfl q8 rfl ?_
                  refine JL_skip rfl rfl q8 rfl ?_
                  refine JL_skip rfl rfl q8 rfl ?_
                  refine JL_pd rfl (det_pick_t rfl q8 rfl) ?_
                  refine JL_pd rfl (det_assign rfl) ?_
                  exact hj (by kernel_rfl) (stsub_consB rfl (by clear hj; first | rfl | (simp only [q2, q3, q7, q8, Bool.and_true, Bool.true_and, Bool.false_and, Bool.and_false, Bool.or_true, Bool.true_or, Bool.or_false, Bool.false_or, Bool.not_true, Bool.not_false]; done) | (simp [q2, q3, q7, q8]; done) | (simp at q2; done) | (simp at q3; done) | (simp at q7; done) | (simp at q8; done) | (simp [q2, q3, q7, q8] <;> omega) | (exfalso; simp at q2 q3 q7 q8; omega) | (simp [q3, q7, q8] at q2; done) | (simp [q2, q7, q8] at q3; done) | (simp [q2, q3, q8] at q7; done) | (simp [q2, q3, q7] at q8; done)) stsub_nil)
                · refine JL_guard rfl rfl q8 ?_
                  refine JL_pd rfl (det_fieldAddr rfl fo_65_4) ?_
                  refine JL_guard rfl rfl q8 ?_
                  refine JL_dt rfl (det_loadK rfl Tryz.isAgg63 rfl) ?_
                  refine JL_guard rfl rfl q8 ?_
                  refine JL_dt rfl (det_loadKA rfl Tryz.isAgg65 Tryz.sizeOf65 rfl rfl) ?_
                  refine JL_guard rfl rfl q8 ?_
                  refine JL_pd rfl (det_makeFuncE rfl rfl) ?_
                  refine JL_guard rfl rfl q8 ?_
                  refine JL_step rfl rfl rfl (jo_callv rfl rfl Tryz.call149 rfl (hall)) fun _ => ?_
                  refine JL_guard rfl rfl q8 ?_
                  refine JL_pd rfl (det_not rfl) ?_
                  refine JL_pd rfl (det_pick_f rfl q8 rfl) ?_
                  refine JL_pd rfl (det_assign rfl) ?_
                  exact hj (by kernel_rfl) (stsub_consB rfl (by clear hj; first | rfl | (simp only [q2, q3, q7, q8, Bool.and_true, Bool.true_and, Bool.false_and, Bool.and_false, Bool.or_true, Bool.true_or, Bool.or_false, Bool.false_or, Bool.not_true, Bool.not_false]; done) | (simp [q2, q3, q7, q8]; done) | (simp at q2; done) | (simp at q3; done) | (simp at q7; done) | (simp at q8; done) | (simp [q2, q3, q7, q8] <;> omega) | (exfalso; simp at q2 q3 q7 q8; omega) | (simp [q3, q7, q8] at q2; done) | (simp [q2, q7, q8] at q3; done) | (simp [q2, q3, q8] at q7; done) | (simp [q2, q3, q7] at q8; done)) stsub_nil)
              · refine JL_guard rfl rfl q7 ?_
                refine JL_pd rfl (det_fieldAddr rfl fo_65_3) ?_
                refine JL_guard rfl rfl q7 ?_
                refine JL_dt rfl (det_loadK rfl Tryz.isAgg3 rfl) ?_
                refine JL_guard rfl rfl q7 ?_
                refine JL_step rfl rfl rfl (jo_callv rfl rfl Tryz.call58 rfl (kwithin_j _ _ _)) fun _ => ?_
                refine JL_guard rfl rfl q7 ?_
                refine JL_pd rfl (det_not rfl) ?_
                refine JL_pd rfl (det_pick_f rfl q7 rfl) ?_
                refine JL_pd rfl (det_move rfl) ?_
                refine JL_split (d0 := 51) rfl (fun q9 => ?_) (fun q9 => ?_)
                · refine JL_skip rfl rfl q9 rfl ?_
                  refine JL_skip rfl rfl q9 rfl ?_
                  refine JL_skip rfl rfl q9 rfl ?_
                  refine JL_skip rfl rfl q9 rfl ?_
                  refine JL_skip rfl rfl q9 rfl ?_
                  refine JL_skip rfl rfl q9 rfl ?_
                  refine JL_pd rfl (det_pick_t rfl q9 rfl) ?_
                  refine JL_pd rfl (det_assign rfl) ?_
                  exact hj (by kernel_rfl) (stsub_consB rfl (by clear hj; first | rfl | (simp only [q2, q3, q7, q9, Bool.and_true, Bool.true_and, Bool.false_and, Bool.and_false, Bool.or_true, Bool.true_or, Bool.or_false, Bool.false_or, Bool.not_true, Bool.not_false]; done) | (simp [q2, q3, q7, q9]; done) | (simp at q2; done) | (simp at q3; done) | (simp at q7; done) | (simp at q9; done) | (simp [q2, q3, q7, q9] <;> omega) | (exfalso; simp at q2 q3 q7 q9; omega) | (simp [q3, q7, q9] at q2; done) | (simp [q2, q7, q9] at q3; done) | (simp [q2, q3, q9] at q7; done) | (simp [q2, q3, q7] at q9; done)) stsub_nil)
                · refine JL_guard rfl rfl q9 ?_
                  refine JL_pd rfl (det_fieldAddr rfl fo_65_4) ?_
                  refine JL_guard rfl rfl q9 ?_
                  refine JL_dt rfl (det_loadK rfl Tryz.isAgg63 rfl) ?_
                  refine JL_guard rfl rfl q9 ?_
                  refine JL_dt rfl (det_loadKA rfl Tryz.isAgg65 Tryz.sizeOf65 rfl rfl) ?_
                  refine JL_guard rfl rfl q9 ?_
                  refine JL_pd rfl (det_makeFuncE rfl rfl) ?_
                  refine JL_guard rfl rfl q9 ?_
                  refine JL_step rfl rfl rfl (jo_callv rfl rfl Tryz.call149 rfl (hall)) fun _ => ?_
                  refine JL_guard rfl rfl q9 ?_
                  refine JL_pd rfl (det_not rfl) ?_
                  refine JL_pd rfl (det_pick_f rfl q9 rfl) ?_
                  refine JL_pd rfl (det_assign rfl) ?_
                  exact hj (by kernel_rfl) (stsub_consB rfl (by clear hj; first | rfl | (simp only [q2, q3, q7, q9, Bool.and_true, Bool.true_and, Bool.false_and, Bool.and_false, Bool.or_true, Bool.true_or, Bool.or_false, Bool.false_or, Bool.not_true, Bool.not_false]; done) | (simp [q2, q3, q7, q9]; done) | (simp at q2; done) | (simp at q3; done) | (simp at q7; done) | (simp at q9; done) | (simp [q2, q3, q7, q9] <;> omega) | (exfalso; simp at q2 q3 q7 q9; omega) | (simp [q3, q7, q9] at q2; done) | (simp [q2, q7, q9] at q3; done) | (simp [q2, q3, q9] at q7; done) | (simp [q2, q3, q7] at q9; done)) stsub_nil)
          · refine JL_guard rfl rfl q2 ?_
            refine JL_pd rfl (det_fieldAddr rfl fo_65_1) ?_
            refine JL_guard rfl rfl q2 ?_
            refine JL_dt rfl (det_loadK rfl Tryz.isAgg3 rfl) ?_
            refine JL_guard rfl rfl q2 ?_
            refine JL_step rfl rfl rfl (jo_callv rfl rfl Tryz.call58 rfl (kwithin_j _ _ _)) fun _ => ?_
            refine JL_guard rfl rfl q2 ?_
            refine JL_pd rfl (det_not rfl) ?_
            refine JL_pd rfl (det_pick_f rfl q2 rfl) ?_
            refine JL_pd rfl (det_move rfl) ?_
            refine JL_split (d0 := 39) rfl (fun q10 => ?_) (fun q10 => ?_)
            · refine JL_skip rfl rfl q10 rfl ?_
              refine JL_skip rfl rfl q10 rfl ?_
              refine JL_skip rfl rfl q10 rfl ?_
              refine JL_skip rfl rfl q10 rfl ?_
              refine JL_pd rfl (det_pick_t rfl q10 rfl) ?_
              refine JL_pd rfl (det_move rfl) ?_
              refine JL_split (d0 := 45) rfl (fun q11 => ?_) (fun q11 => ?_)
              · refine JL_skip rfl rfl q11 rfl ?_
                refine JL_skip rfl rfl q11 rfl ?_
                refine JL_skip rfl rfl q11 rfl ?_
                refine JL_skip rfl rfl q11 rfl ?_
                refine JL_pd rfl (det_pick_t rfl q11 rfl) ?_
                refine JL_pd rfl (det_move rfl) ?_
                refine JL_split (d0 := 51) rfl (fun q12 => ?_) (fun q12 => ?_)
                · refine JL_skip rfl rfl q12 rfl ?_
                  refine JL_skip rfl rfl q12 rfl ?_
                  refine JL_skip rfl rfl q12 rfl ?_
                  refine JL_skip rfl rfl q12 rfl ?_
                  refine JL_skip rfl rfl q12 rfl ?_
                  refine JL_skip rfl rfl q12 rfl ?_
                  refine JL_pd rfl (det_pick_t rfl q12 rfl) ?_
                  refine JL_pd rfl (det_assign rfl) ?_
                  exact hj (by kernel_rfl) (stsub_consB rfl (by clear hj; first | rfl | (simp only [q2, q10, q11, q12, Bool.and_true, Bool.true_and, Bool.false_and, Bool.and_false, Bool.or_true, Bool.true_or, Bool.or_false, Bool.false_or, Bool.not_true, Bool.not_false]; done) | (simp [q2, q10, q11, q12]; done) | (simp at q2; done) | (simp at q10; done) | (simp at q11; done) | (simp at q12; done) | (simp [q2, q10, q11, q12] <;> omega) | (exfalso; simp at q2 q10 q11 q12; omega) | (simp [q10, q11, q12] at q2; done) | (simp [q2, q11, q12] at q10; done) | (simp [q2, q10, q12] at q11; done) | (simp [q2, q10, q11] at q12; done)) stsub_nil)
                · refine JL_guard rfl rfl q12 ?_
                  refine JL_pd rfl (det_fieldAddr rfl fo_65_4) ?_
                  refine JL_guard rfl rfl q12 ?_
                  refine JL_dt rfl (det_loadK rfl Tryz.isAgg63 rfl) ?_
                  refine JL_guard rfl rfl q12 ?_
                  refine JL_dt rfl (det_loadKA rfl Tryz.isAgg65 Tryz.sizeOf65 rfl rfl) ?_
                  refine JL_guard rfl rfl q12 ?_
                  refine JL_pd rfl (det_makeFuncE rfl rfl) ?_
                  refine JL_guard rfl rfl q12 ?_
                  refine JL_step rfl rfl rfl (jo_callv rfl rfl Tryz.call149 rfl (hall)) fun _ => ?_
                  refine JL_guard rfl rfl q12 ?_
                  refine JL_pd rfl (det_not rfl) ?_
                  refine JL_pd rfl (det_pick_f rfl q12 rfl) ?_
                  refine JL_pd rfl (det_assign rfl) ?_
                  exact hj (by kernel_rfl) (stsub_consB rfl (by clear hj; first | rfl | (simp only [q2, q10, q11, q12, Bool.and_true, Bool.true_and, Bool.false_and, Bool.and_false, Bool.or_true, Bool.true_or, Bool.or_false, Bool.false_or, Bool.not_true, Bool.not_false]; done) | (simp [q2, q10, q11, q12]; done) | (simp at q2; done) | (simp at q10; done) | (simp at q11; done) | (simp at q12; done) | (simp [q2, q10, q11, q12] <;> omega) | (exfalso; simp at q2 q10 q11 q12; omega) | (simp [q10, q11, q12] at q2; done) | (simp [q2, q11, q12] at q10; done) | (simp [q2, q10, q12] at q11; done) | (simp [q2, q10, q11] at q12; done)) stsub_nil)
              · refine JL_guard rfl rfl q11 ?_
                refine JL_pd rfl (det_fieldAddr rfl fo_65_3) ?_
                refine JL_guard rfl rfl q11 ?_
                refine JL_dt rfl (det_loadK rfl Tryz.isAgg3 rfl) ?_
                refine JL_guard rfl rfl q11 ?_
                refine JL_step rfl rfl rfl (jo_callv rfl rfl Tryz.call58 rfl (kwithin_j _ _ _)) fun _ => ?_
                refine JL_guard rfl rfl q11 ?_
                refine JL_pd rfl (det_not rfl) ?_
                refine JL_pd rfl (det_pick_f rfl q11 rfl) ?_
                refine JL_pd rfl (det_move rfl) ?_
                refine JL_split (d0 := 51) rfl (fun q13 => ?_) (fun q13 => ?_)
                · refine JL_skip rfl rfl q13 rfl ?_
                  refine JL_skip rfl rfl q13 rfl ?_
                  refine JL_skip rfl rfl q13 rfl ?_
                  refine JL_skip rfl rfl q13 rfl ?_
                  refine JL_skip rfl rfl q13 rfl ?_
                  refine JL_skip rfl rfl q13 rfl ?_
                  refine JL_pd rfl (det_pick_t rfl q13 rfl) ?_
                  refine JL_pd rfl (det_assign rfl) ?_
                  exact hj (by kernel_rfl) (stsub_consB rfl (by clear hj; first | rfl | (simp only [q2, q10, q11, q13, Bool.and_true, Bool.true_and, Bool.false_and, Bool.and_false, Bool.or_true, Bool.true_or, Bool.or_false, Bool.false_or, Bool.not_true, Bool.not_false]; done) | (simp [q2, q10, q11, q13]; done) | (simp at q2; done) | (simp at q10; done) | (simp at q11; done) | (simp at q13; done) | (simp [q2, q10, q11, q13] <;> omega) | (exfalso; simp at q2 q10 q11 q13; omega) | (simp [q10, q11, q13] at q2; done) | (simp [q2, q11, q13] at q10; done) | (simp [q2, q10, q13] at q11; done) | (simp [q2, q10, q11] at q13; done)) stsub_nil)
                · refine JL_guard rfl rfl q13 ?_
                  refine JL_pd rfl (det_fieldAddr rfl fo_65_4) ?_
                  refine JL_guard rfl rfl q13 ?_
                  refine JL_dt rfl (det_loadK rfl Tryz.isAgg63 rfl) ?_
                  refine JL_guard rfl rfl q13 ?_
                  refine JL_dt rfl (det_loadKA rfl Tryz.isAgg65 Tryz.sizeOf65 rfl rfl) ?_
                  refine JL_guard rfl rfl q13 ?_
                  refine JL_pd rfl (det_makeFuncE rfl rfl) ?_
                  refine JL_guard rfl rfl q13 ?_
                  refine JL_step rfl rfl rfl (jo_callv rfl rfl Tryz.call149 rfl (hall)) fun _ => ?_
                  refine JL_guard rfl rfl q13 ?_
                  refine JL_pd rfl (det_not rfl) ?_
                  refine JL_pd rfl (det_pick_f rfl q13 rfl) ?_
                  refine JL_pd rfl (det_assign rfl) ?_
                  exact hj (by kernel_rfl) (stsub_consB rfl (by clear hj; first | rfl | (simp only [q2, q10, q11, q13, Bool.and_true, Bool.true_and, Bool.false_and, Bool.and_false, Bool.or_true, Bool.true_or, Bool.or_false, Bool.false_or, Bool.not_true, Bool.not_false]; done) | (simp [q2, q10, q11, q13]; done) | (simp at q2; done) | (simp at q10; done) | (simp at q11; done) | (simp at q13; done) | (simp [q2, q10, q11, q13] <;> omega) | (exfalso; simp at q2 q10 q11 q13; omega) | (simp [q10, q11, q13] at q2; done) | (simp [q2, q11, q13] at q10; done) | (simp [q2, q10, q13] at q11; done) | (simp [q2, q10, q11] at q13; done)) stsub_nil)
            · refine JL_guard rfl rfl q10 ?_
              refine JL_pd rfl (det_fieldAddr rfl fo_65_2) ?_
              refine JL_guard rfl rfl q10 ?_
              refine JL_dt rfl (det_loadK rfl Tryz.isAgg3 rfl) ?_
              refine JL_guard rfl rfl q10 ?_
              refine JL_step rfl rfl rfl (jo_callv rfl rfl Tryz.call58 rfl (kwithin_j _ _ _)) fun _ => ?_
              refine JL_guard rfl rfl q10 ?_
              refine JL_pd rfl (det_not rfl) ?_
              refine JL_pd rfl (det_pick_f rfl q10 rfl) ?_
              refine JL_pd rfl (det_move rfl) ?_
              refine JL_split (d0 := 45) rfl (fun q14 => ?_) (fun q14 => ?_)
              · refine JL_skip rfl rfl q14 rfl ?_
                refine JL_skip rfl rfl q14 rfl ?_
                refine JL_skip rfl rfl q14 rfl ?_
                refine JL_skip rfl rfl q14 rfl ?_
                refine JL_pd rfl (det_pick_t rfl q14 rfl) ?_
                refine JL_pd rfl (det_move rfl) ?_
                refine JL_split (d0 := 51) rfl (fun q15 => ?_) (fun q15 => ?_)
                · refine JL_skip rfl rfl q15 rfl ?_
                  refine JL_skip rfl rfl q15 rfl ?_
                  refine JL_skip rfl rfl q15 rfl ?_
                  refine JL_skip rfl rfl q15 rfl ?_
                  refine JL_skip rfl rfl q15 rfl ?_
                  refine JL_skip rfl rfl q15 rfl ?_
                  refine JL_pd rfl (det_pick_t rfl q15 rfl) ?_
                  refine JL_pd rfl (det_assign rfl) ?_
                  exact hj (by kernel_rfl) (stsub_consB rfl (by clear hj; first | rfl | (simp only [q2, q10, q14, q15, Bool.and_true, Bool.true_and, Bool.false_and, Bool.and_false, Bool.or_true, Bool.true_or, Bool.or_false, Bool.false_or, Bool.not_true, Bool.not_false]; done) | (simp [q2, q10, q14, q15]; done) | (simp at q2; done) | (simp at q10; done) | (simp at q14; done) | (simp at q15; done) | (simp [q2, q10, q14, q15] <;> omega) | (exfalso; simp at q2 q10 q14 q15; omega) | (simp [q10, q14, q15] at q2; done) | (simp [q2, q14, q15] at q10; done) | (simp [q2, q10, q15] at q14; done) | (simp [q2, q10, q14] at q15; done)) stsub_nil)
                · refine JL_guard rfl rfl q15 ?_
                  refine JL_pd rfl (det_fieldAddr rfl fo_65_4) ?_
                  refine JL_guard rfl rfl q15 ?_
                  refine JL_dt rfl (det_loadK rfl Tryz.isAgg63 rfl) ?_
                  refine JL_guard rfl rfl q15 ?_
                  refine JL_dt rfl (det_loadKA rfl Tryz.isAgg65 Tryz.sizeOf65 rfl rfl) ?_
                  refine JL_guard rfl rfl q15 ?_
                  refine JL_pd rfl (det_makeFuncE rfl rfl) ?_
                  refine JL_guard rfl rfl q15 ?_
                  refine JL_step rfl rfl rfl (jo_callv rfl rfl Tryz.call149 rfl (hall)) fun _ => ?_
                  refine JL_guard rfl rfl q15 ?_
                  refine JL_pd rfl (det_not rfl) ?_
                  refine JL_pd rfl (det_pick_f rfl q15 rfl) ?_
                  refine JL_pd rfl (det_assign rfl) ?_
                  exact hj (by kernel_rfl) (stsub_consB rfl (by clear hj; first | rfl | (simp only [q2, q10, q14, q15, Bool.and_true, Bool.true_and, Bool.false_and, Bool.and_false, Bool.or_true, Bool.true_or, Bool.or_false, Bool.false_or, Bool.not_true, Bool.not_false]; done) | (simp [q2, q10, q14, q15]; done) | (simp at q2; done) | (simp at q10; done) | (simp at q14; done) | (simp at q15; done) | (simp [q2, q10, q14, q15] <;> omega) | (exfalso; simp at q2 q10 q14 q15; omega) | (simp [q10, q14, q15] at q2; done) | (simp [q2, q14, q15] at q10; done) | (simp [q2, q10, q15] at q14; done) | (simp [q2, q10, q14] at q15; done)) stsub_nil)
              · refine JL_guard rfl rfl q14 ?_
                refine JL_pd rfl (det_fieldAddr rfl fo_65_3) ?_
                refine JL_guard rfl rfl q14 ?_
                refine JL_dt rfl (det_loadK rfl Tryz.isAgg3 rfl) ?_
                refine JL_guard rfl rfl q14 ?_
                refine JL_step rfl rfl rfl (jo_callv rfl rfl Tryz.call58 rfl (kwithin_j _ _ _)) fun _ => ?_
                refine JL_guard rfl rfl q14 ?_
                refine JL_pd rfl (det_not rfl) ?_
                refine JL_pd rfl (det_pick_f rfl q14 rfl) ?_
                refine JL_pd rfl (det_move rfl) ?_
                refine JL_split (d0 := 51) rfl (fun q16 => ?_) (fun q16 => ?_)
                · refine JL_skip rfl rfl q16 rfl ?_
                  refine JL_skip rfl rfl q16 rfl ?_
                  refine JL_skip rfl rfl q16 rfl ?_
                  refine JL_skip rfl rfl q16 rfl ?_
                  refine JL_skip rfl rfl q16 rfl ?_
                  refine JL_skip rfl rfl q16 rfl ?_
                  refine JL_pd rfl (det_pick_t rfl q16 rfl) ?_
                  refine JL_pd rfl (det_assign rfl) ?_
                  exact hj (by kernel_rfl) (stsub_consB rfl (by clear hj; first | rfl | (simp only [q2, q10, q14, q16, Bool.and_true, Bool.true_and, Bool.false_and, Bool.and_false, Bool.or_true, Bool.true_or, Bool.or_false, Bool.false_or, Bool.not_true, Bool.not_false]; done) | (simp [q2, q10, q14, q16]; done) | (simp at q2; done) | (simp at q10; done) | (simp at q14; done) | (simp at q16; done) | (simp [q2, q10, q14, q16] <;> omega) | (exfalso; simp at q2 q10 q14 q16; omega) | (simp [q10, q14, q16] at q2; done) | (simp [q2, q14, q16] at q10; done) | (simp [q2, q10, q16] at q14; done) | (simp [q2, q10, q14] at q16; done)) stsub_nil)
                · refine JL_guard rfl rfl q16 ?_
                  refine JL_pd rfl (det_fieldAddr rfl fo_65_4) ?_
                  refine JL_guard rfl rfl q16 ?_
                  refine JL_dt rfl (det_loadK rfl Tryz.isAgg63 rfl) ?_
                  refine JL_guard rfl rfl q16 ?_
                  refine JL_dt rfl (det_loadKA rfl Tryz.isAgg65 Tryz.sizeOf65 rfl rfl) ?_
                  refine JL_guard rfl rfl q16 ?_
                  refine JL_pd rfl (det_makeFuncE rfl rfl) ?_
                  refine JL_guard rfl rfl q16 ?_
                  refine JL_step rfl rfl rfl (jo_callv rfl rfl Tryz.call149 rfl (hall)) fun _ => ?_
                  refine JL_guard rfl rfl q16 ?_
                  refine JL_pd rfl (det_not rfl) ?_
                  refine JL_pd rfl (det_pick_f rfl q16 rfl) ?_
                  refine JL_pd rfl (det_assign rfl) ?_
                  exact hj (by kernel_rfl) (stsub_consB rfl (by clear hj; first | rfl | (simp only [q2, q10, q14, q16, Bool.and_true, Bool.true_and, Bool.false_and, Bool.and_false, Bool.or_true, Bool.true_or, Bool.or_false, Bool.false_or, Bool.not_true, Bool.not_false]; done) | (simp [q2, q10, q14, q16]; done) | (simp at q2; done) | (simp at q10; done) | (simp at q14; done) | (simp at q16; done) | (simp [q2, q10, q14, q16] <;> omega) | (exfalso; simp at q2 q10 q14 q16; omega) | (simp [q10, q14, q16] at q2; done) | (simp [q2, q14, q16] at q10; done) | (simp [q2, q10, q16] at q14; done) | (simp [q2, q10, q14] at q16; done)) stsub_nil)
        refine JL_nil ?_
        refine JE_seq ?_
        -- stop: cond
        refine JC_cond rfl (fun h6 => ?_) (fun h6 => ?_)
        · rw [Bool.not_eq_true'] at h6
          refine JC_seq ?_
          refine JC_region ?_
          refine JL_pd rfl (det_assign rfl) ?_
          refine JL_nil ?_
          refine JE_seq ?_
          refine JC_ret ?_
          refine JE_block_ret ?_
          refine JE_seq_ret ?_
          -- stop: out
          refine JE_out (.inl rfl) () (results1 Tryz.results112 (res_tmp rfl)) (by unfold rFault; rw [if_neg h5, if_pos h6]) (List.Perm.refl _) (fun _ _ => trivial)
        · rw [Bool.not_eq_false'] at h6
          refine JC_skip ?_
          refine JE_block ?_
          refine JE_seq ?_
          refine JC_seq ?_
          refine JC_region ?_
          refine JL_pd rfl (det_assign rfl) ?_
          refine JL_nil ?_
          refine JE_seq ?_
          refine JC_ret ?_
          -- stop: out
          refine JE_out (.inl rfl) () (results1 Tryz.results112 (res_tmp rfl)) (by unfold rFault; rw [if_neg h5, if_neg (by rw [h6]; decide)]) (List.Perm.refl _) (fun _ _ => trivial)
      · have hr2 : inI r.rows 1 4 = false := by simpa using hr
        refine JL_is (d0 := 33) true rfl (by rw [hr2]; rfl) (fun g1 => ?_)
        refine JL_skip rfl rfl g1 rfl ?_
        refine JL_skip rfl rfl g1 rfl ?_
        refine JL_skip rfl rfl g1 rfl ?_
        refine JL_skip rfl rfl g1 rfl ?_
        refine JL_pd rfl (det_pick_t rfl g1 rfl) ?_
        refine JL_pd rfl (det_move rfl) ?_
        refine JL_skip rfl rfl rfl rfl ?_
        refine JL_skip rfl rfl rfl rfl ?_
        refine JL_skip rfl rfl rfl rfl ?_
        refine JL_skip rfl rfl rfl rfl ?_
        refine JL_pd rfl (det_pick_t rfl rfl rfl) ?_
        refine JL_pd rfl (det_move rfl) ?_
        refine JL_skip rfl rfl rfl rfl ?_
        refine JL_skip rfl rfl rfl rfl ?_
        refine JL_skip rfl rfl rfl rfl ?_
        refine JL_skip rfl rfl rfl rfl ?_
        refine JL_pd rfl (det_pick_t rfl rfl rfl) ?_
        refine JL_pd rfl (det_move rfl) ?_
        refine JL_skip rfl rfl rfl rfl ?_
        refine JL_skip rfl rfl rfl rfl ?_
        refine JL_skip rfl rfl rfl rfl ?_
        refine JL_skip rfl rfl rfl rfl ?_
        refine JL_skip rfl rfl rfl rfl ?_
        refine JL_skip rfl rfl rfl rfl ?_
        refine JL_pd rfl (det_pick_t rfl rfl rfl) ?_
        refine JL_pd rfl (det_assign rfl) ?_
        refine JL_nil ?_
        refine JE_seq ?_
        refine JC_condT rfl rfl ?_
        refine JC_seq ?_
        refine JC_region ?_
        refine JL_pd rfl (det_assign rfl) ?_
        refine JL_nil ?_
        refine JE_seq ?_
        refine JC_ret ?_
        refine JE_block_ret ?_
        refine JE_seq_ret ?_
        -- stop: out
        -- stop: out
        refine JE_out (.inl rfl) () (results1 Tryz.results112 (res_tmp rfl)) (by unfold rFault; rw [if_neg h5, if_pos (by rw [hr2]; rfl)]) (List.Perm.refl _) (fun _ _ => trivial)
/-- Of how many rows how many pins are ahead. -/
def T : Nat → Nat
  | 0 => 0
  | 1 => 1
  | 2 => 3
  | 3 => 6
  | _ => 10
def whR (p : Nat) : Nat := if p < 1 then 0 else if p < 3 then 1 else if p < 6 then 2 else 3
def whA (p : Nat) : Nat := p - T (whR p)
theorem T_succ {r : Nat} (h : r ≤ 3) : T (r + 1) = T r + (r + 1) := by
  rcases (by omega : r = 0 ∨ r = 1 ∨ r = 2 ∨ r = 3) with rfl | rfl | rfl | rfl <;> rfl
theorem wh_all : ∀ p, p < 10 → ∀ r, r < 5 → T r ≤ p → p - T r ≤ r → whR p = r ∧ whA p = p - T r := by decide
theorem wh_of {p r : Nat} (hp : p < 10) (h : T r ≤ p) (hk : p - T r ≤ r) (hr : r ≤ 4) : whR p = r ∧ whA p = p - T r := wh_all p hp r (by omega) h hk
theorem whR_le (p : Nat) : whR p ≤ 3 := by
  unfold whR
  split
  · omega
  · split
    · omega
    · split <;> omega
theorem whA_all : ∀ p, p < 10 → whA p ≤ 3 := by decide
theorem whA_le {p : Nat} (h : p < 10) : whA p ≤ 3 := whA_all p h
set_option maxRecDepth 100000 in
theorem where_j (p : Nat) (hp : p < 10) : Cv Tryz.prog 148 [I p] KTrue (.agg #[I (whR p), I (whA p)]) := by
  refine Cx_of Tryz.func148 rfl Tryz.ntmps148 rfl fun w0 M0 => ?_
  refine JC_seq ?_
  refine JC_region ?_
  refine JL_step rfl rfl rfl (jo_alloc0 Tryz.zeroValue262 rfl) fun b2 => ?_
  refine JL_nil ?_
  refine JE_seq ?_
  refine JC_seq ?_
  refine JC_region ?_
  refine JL_pd rfl (det_assign rfl) ?_
  refine JL_nil ?_
  refine JE_seq ?_
  refine JC_seq ?_
  refine JC_block ?_
  -- stop: loop
  refine JC_loopF (γ := Nat) (fun r => r ≤ 4 ∧ T r ≤ p) (fun r => [(3, I r), (0, I (p - T r : Nat))]) (fun _ => []) (fun r => 5 - r) 0 ⟨Nat.zero_le _, Nat.zero_le _⟩ (stsub_consI rfl rfl (stsub_consI rfl (by simp [T]) stsub_nil)) ht_nil ?_
  rintro r ⟨hr, hT⟩ K hK
  dsimp only [List.cons_append, List.nil_append]
  refine JC_seq ?_
  refine JC_seq ?_
  refine JC_region ?_
  refine JL_pd rfl (det_move rfl) ?_
  refine JL_pd rfl (det_move rfl) ?_
  refine JL_pd rfl (det_gtr rfl rfl) ?_
  refine JL_nil ?_
  refine JE_seq ?_
  -- stop: cond
  refine JC_if rfl (fun h1 => ?_) (fun h1 => ?_)
  · have hr3 : r ≤ 3 := by
      apply Classical.byContradiction
      intro hn
      have : r = 4 := by omega
      subst this
      have : T 4 = 10 := rfl
      omega
    have hs := T_succ hr3
    refine JC_skip ?_
    refine JE_seq ?_
    refine JC_block ?_
    refine JC_seq ?_
    refine JC_region ?_
    refine JL_pd rfl (det_move rfl) ?_
    refine JL_pd rfl (det_move rfl) ?_
    refine JL_pd rfl (det_add rfl rfl ⟨by omega, by omega⟩) ?_
    refine JL_pd rfl (det_sub rfl rfl ⟨by omega, by omega⟩) ?_
    refine JL_pd rfl (det_assign rfl) ?_
    refine JL_nil ?_
    refine JE_seq ?_
    refine JC_region ?_
    refine JL_pd rfl (det_move rfl) ?_
    refine JL_pd rfl (det_add rfl rfl ⟨by omega, by omega⟩) ?_
    refine JL_pd rfl (det_assign rfl) ?_
    refine JL_nil ?_
    refine JE_block ?_
    -- stop: end
    refine JE_roundF hK (r + 1) ⟨by omega, by omega⟩ (by omega) (stsub_consI rfl (by omega) (stsub_consI rfl (by omega) stsub_nil)) ht_nil
  · obtain ⟨w1, w2⟩ := wh_of (p := p) (r := r) hp hT (by omega) hr
    refine JC_exit ?_
    refine JE_seq_exit ?_
    refine JE_then_exit ?_
    refine JE_block_here ?_
    refine JE_seq ?_
    refine JC_seq ?_
    refine JC_region ?_
    refine JL_pd rfl (det_move rfl) ?_
    refine JL_pd rfl (det_move rfl) ?_
    refine JL_pd rfl (det_build rfl (bld_262_0_1 _ _)) ?_
    refine JL_step0 rfl rfl (jo_store rfl rfl rfl (by first | (simp only [splice_norm]; done) | (simp only [splice_norm]; rfl) | rfl) Tryz.sizeOf262 rfl rfl) fun _ => ?_
    refine JL_nil ?_
    refine JE_seq ?_
    refine JC_ret ?_
    -- stop: out
    refine JE_out (.inl rfl) () (results1 Tryz.results148 (res_box rfl Tryz.isAgg262 Tryz.sizeOf262 rfl)) (by rw [w1, w2]) (List.Perm.refl _) (fun _ _ => trivial)
def bdN (r : Rk) (p : Nat) : Int := r.mid + r.gap * (2 * (whA p : Int) - (whR p : Int))
theorem bd_bd {r : Rk} (V : VR r) {p : Nat} (hp : p < 10) : InI (2 * (whA p : Int)) ∧ InI (r.gap * (2 * (whA p : Int) - (whR p : Int))) ∧ -50 ≤ r.gap * (2 * (whA p : Int) - (whR p : Int)) ∧ r.gap * (2 * (whA p : Int) - (whR p : Int)) ≤ 50 := by
  have h1 := whR_le p
  have h2 := whA_le hp
  have h3 := mul_bd (a := r.gap) (b := 2 * (whA p : Int) - (whR p : Int)) (A := 8) (B := 6) (by have := V.g0; omega) V.g1 (by omega) (by omega) (by omega) (by omega)
  exact ⟨⟨by omega, by omega⟩, ⟨by omega, by omega⟩, by omega, by omega⟩
theorem board_j (r : Rk) (a : Option Addr) (c : Nat) (V : VR r) (p : Nat) (hp : p < 10) : Cv Tryz.prog 203 [vRk r a c, I p] KTrue (I (bdN r p)) := by
  have hb := bd_bd V hp
  have h1 := whR_le p
  have h2 := whA_le hp
  have m0 := V.m0
  have m1 := V.m1
  refine Cx_of Tryz.func203 rfl Tryz.ntmps203 rfl fun w0 M0 => ?_
  refine JC_seq ?_
  refine JC_region ?_
  refine JL_step rfl rfl rfl (jo_box rfl rfl) fun b2 => ?_
  refine JL_pd rfl (det_assign rfl) ?_
  refine JL_nil ?_
  refine JE_seq ?_
  refine JC_seq ?_
  refine JC_region ?_
  refine JL_pd rfl (det_move rfl) ?_
  refine JL_step rfl rfl rfl (jo_callv rfl rfl Tryz.call148 rfl (where_j p hp)) fun _ => ?_
  refine JL_step rfl rfl rfl (jo_alloc0 Tryz.zeroValue262 rfl) fun b5 => ?_
  refine JL_step0 rfl rfl (jo_store rfl rfl rfl (by first | (simp only [splice_norm]; done) | (simp only [splice_norm]; rfl) | rfl) Tryz.sizeOf262 rfl rfl) fun _ => ?_
  refine JL_nil ?_
  refine JE_seq ?_
  refine JC_seq ?_
  refine JC_region ?_
  refine JL_pd rfl (det_fieldAddr rfl fo_65_1) ?_
  refine JL_dt rfl (det_loadK rfl Tryz.isAgg3 rfl) ?_
  refine JL_pd rfl (det_fieldAddr rfl fo_65_2) ?_
  refine JL_dt rfl (det_loadK rfl Tryz.isAgg3 rfl) ?_
  refine JL_pd rfl (det_fieldAddr rfl fo_262_1) ?_
  refine JL_dt rfl (det_loadK rfl Tryz.isAgg3 rfl) ?_
  refine JL_pd rfl (det_mul rfl rfl hb.1) ?_
  refine JL_pd rfl (det_fieldAddr rfl fo_262_0) ?_
  refine JL_dt rfl (det_loadK rfl Tryz.isAgg3 rfl) ?_
  refine JL_pd rfl (det_sub rfl rfl ⟨by omega, by omega⟩) ?_
  refine JL_pd rfl (det_mul rfl rfl hb.2.1) ?_
  refine JL_pd rfl (det_add rfl rfl ⟨by omega, by omega⟩) ?_
  refine JL_pd rfl (det_assign rfl) ?_
  refine JL_nil ?_
  refine JE_seq ?_
  refine JC_ret ?_
  -- stop: out
  refine JE_out (.inl rfl) () (results1 Tryz.results203 (res_tmp rfl)) rfl (List.Perm.refl _) (fun _ _ => trivial)
end Go.Proofs.YthpkgabckklojaaGreat.Rk

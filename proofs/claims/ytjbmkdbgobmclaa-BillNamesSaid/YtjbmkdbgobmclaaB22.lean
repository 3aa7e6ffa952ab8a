/- The statements about bill: BillShares, BillCoin. -/
import Derived.Test.YtjbmkdbgobmclaaQ9
set_option linter.unusedSimpArgs false
set_option linter.unusedVariables false
namespace Go.Proofs.Ytjbmkdbgobmclaa
open Go.RowKit Go.Shelf

set_option maxRecDepth 100000 in
theorem ShareFault_j (sum : Int) (a : Option Addr) (c : Nat) (ws : List Int) (hl : ws.length ≤ 1000) : Cv Try.prog 19 [I sum, .slice a ws.length c] (KSl a ws.length c encI ws) (I (shareE sum ws)) := by
  refine Cx_of Try.func19 rfl Try.ntmps19 rfl fun w0 M0 => ?_
  refine JC_seq ?_
  refine JC_region ?_
  refine JL_pd rfl (det_assign rfl) ?_
  refine JL_nil ?_
  refine JE_seq ?_
  refine JC_seq ?_
  refine JC_seq ?_
  refine JC_region ?_
  refine JL_pd rfl (det_move rfl) ?_
  refine JL_pd rfl (det_len rfl Try.runUnderlying22) ?_
  refine JL_pd rfl (det_gtr rfl rfl) ?_
  refine JL_nil ?_
  refine JE_seq ?_
  -- stop: cond
  refine JC_if rfl (fun h0 => ?_) (fun h0 => ?_)
  · refine JC_seq ?_
    refine JC_region ?_
    refine JL_pd rfl (det_assign rfl) ?_
    refine JL_nil ?_
    refine JE_seq ?_
    refine JC_ret ?_
    refine JE_seq_ret ?_
    -- stop: out
    refine JE_out (.inl rfl) () (results1 Try.results19 (res_tmp rfl)) (by unfold shareE; rw [if_pos (by omega)]) (List.Perm.refl _) (fun _ _ => trivial)
  · refine JC_skip ?_
    refine JE_seq ?_
    refine JC_seq ?_
    refine JC_region ?_
    refine JL_pd rfl (det_assign rfl) ?_
    refine JL_nil ?_
    refine JE_seq ?_
    refine JC_seq ?_
    refine JC_seq ?_
    refine JC_region ?_
    refine JL_pd rfl (det_assign rfl) ?_
    refine JL_nil ?_
    refine JE_seq ?_
    refine JC_block ?_
    -- stop: loop
    refine JC_loopF (γ := Nat) (fun i => i ≤ ws.length ∧ (ws.take i).all (fun n => inI n 0 1000) = true) (fun i => [(6, I i), (5, I (ws.take i).sum)]) (fun _ => []) (fun i => ws.length - i) 0 ⟨Nat.zero_le _, rfl⟩ (stsub_consI rfl rfl (stsub_consI rfl (by rw [List.take_zero]; rfl) stsub_nil)) ht_nil ?_
    rintro i ⟨hi, ha⟩ K hK
    dsimp only [List.cons_append, List.nil_append]
    have hbd := sum_bd (ws.take i) fun y hy => inI_iff.1 (List.all_eq_true.1 ha y hy)
    rw [List.length_take] at hbd
    refine JC_seq ?_
    refine JC_seq ?_
    refine JC_region ?_
    refine JL_pd rfl (det_move rfl) ?_
    refine JL_pd rfl (det_move rfl) ?_
    refine JL_pd rfl (det_len rfl Try.runUnderlying22) ?_
    refine JL_pd rfl (det_lss rfl rfl) ?_
    refine JL_nil ?_
    refine JE_seq ?_
    -- stop: cond
    refine JC_if rfl (fun h1 => ?_) (fun h1 => ?_)
    · have hi2 : i < ws.length := by omega
      have hts := take_sum hi2
      refine JC_skip ?_
      refine JE_seq ?_
      refine JC_seq ?_
      refine JC_block ?_
      refine JC_seq ?_
      refine JC_seq ?_
      refine JC_region ?_
      refine JL_pd rfl (det_move rfl) ?_
      refine JL_pd rfl (det_move rfl) ?_
      refine JL_dt rfl (det_indexAddr rfl rfl (by first | rfl | omega) (by first | assumption | omega | decide) Try.runUnderlying22 Try.sizeOf3) ?_
      refine JL_dt rfl (det_loadE rfl (by first | assumption | omega | decide) Try.isAgg3 rfl rfl) ?_
      refine JL_step rfl rfl rfl (jo_callv rfl rfl Try.call27 rfl (In_j _ _ _)) fun _ => ?_
      refine JL_pd rfl (det_not rfl) ?_
      refine JL_nil ?_
      refine JE_seq ?_
      -- stop: cond
      refine JC_cond rfl (fun h2 => ?_) (fun h2 => ?_)
      · simp only [Bool.not_eq_true'] at h2
        refine JC_seq ?_
        refine JC_region ?_
        refine JL_pd rfl (det_assign rfl) ?_
        refine JL_nil ?_
        refine JE_seq ?_
        refine JC_ret ?_
        refine JE_seq_ret ?_
        refine JE_block_ret ?_
        refine JE_seq_ret ?_
        refine JE_then_ret ?_
        refine JE_block_ret ?_
        refine JE_seq_ret ?_
        -- stop: out
        refine JE_out (.inl rfl) () (results1 Try.results19 (res_tmp rfl)) (by unfold shareE; rw [if_neg (by omega), if_pos (by rw [all_no hi2 h2, Bool.and_false])]) (List.Perm.refl _) (fun _ _ => trivial)
      · simp only [Bool.not_eq_false'] at h2
        have hw := inI_iff.1 h2
        refine JC_skip ?_
        refine JE_seq ?_
        refine JC_region ?_
        refine JL_pd rfl (det_move rfl) ?_
        refine JL_pd rfl (det_move rfl) ?_
        refine JL_pd rfl (det_move rfl) ?_
        refine JL_dt rfl (det_indexAddr rfl rfl (by first | rfl | omega) (by first | assumption | omega | decide) Try.runUnderlying22 Try.sizeOf3) ?_
        refine JL_dt rfl (det_loadE rfl (by first | assumption | omega | decide) Try.isAgg3 rfl rfl) ?_
        refine JL_pd rfl (det_add rfl rfl ⟨by omega, by omega⟩) ?_
        refine JL_pd rfl (det_assign rfl) ?_
        refine JL_nil ?_
        refine JE_block ?_
        refine JE_seq ?_
        refine JC_region ?_
        refine JL_pd rfl (det_move rfl) ?_
        refine JL_pd rfl (det_add rfl rfl ⟨by omega, by omega⟩) ?_
        refine JL_pd rfl (det_assign rfl) ?_
        refine JL_nil ?_
        -- stop: end
        refine JE_roundF hK (i + 1) ⟨by omega, all_snoc hi2 ha h2⟩ (by omega) (stsub_consI rfl (by omega) (stsub_consI rfl (by omega) stsub_nil)) ht_nil
    · obtain rfl : i = ws.length := by omega
      rw [List.take_length] at ha ⊢
      refine JC_exit ?_
      refine JE_seq_exit ?_
      refine JE_then_exit ?_
      refine JE_block_here ?_
      refine JE_seq ?_
      refine JC_seq ?_
      refine JC_seq ?_
      refine JC_region ?_
      refine JL_pd rfl (det_move rfl) ?_
      refine JL_step rfl rfl rfl (jo_callv rfl rfl Try.call27 rfl (In_j _ _ _)) fun _ => ?_
      refine JL_pd rfl (det_not rfl) ?_
      refine JL_nil ?_
      refine JE_seq ?_
      -- stop: cond
      refine JC_cond rfl (fun h2 => ?_) (fun h2 => ?_)
      · simp only [Bool.not_eq_true'] at h2
        refine JC_seq ?_
        refine JC_region ?_
        refine JL_pd rfl (det_assign rfl) ?_
        refine JL_nil ?_
        refine JE_seq ?_
        refine JC_ret ?_
        refine JE_seq_ret ?_
        -- stop: out
        refine JE_out (.inl rfl) () (results1 Try.results19 (res_tmp rfl)) (by unfold shareE; rw [if_neg (by omega), if_pos (by rw [h2, Bool.false_and])]) (List.Perm.refl _) (fun _ _ => trivial)
      · simp only [Bool.not_eq_false'] at h2
        refine JC_skip ?_
        refine JE_seq ?_
        refine JC_seq ?_
        refine JC_seq ?_
        refine JC_region ?_
        refine JL_pd rfl (det_move rfl) ?_
        refine JL_pd rfl (det_eql rfl rfl) ?_
        refine JL_nil ?_
        refine JE_seq ?_
        -- stop: cond
        refine JC_if rfl (fun h3 => ?_) (fun h3 => ?_)
        · refine JC_seq ?_
          refine JC_region ?_
          refine JL_pd rfl (det_assign rfl) ?_
          refine JL_nil ?_
          refine JE_seq ?_
          refine JC_ret ?_
          refine JE_seq_ret ?_
          -- stop: out
          refine JE_out (.inl rfl) () (results1 Try.results19 (res_tmp rfl)) (by unfold shareE; rw [if_neg (by omega), if_neg (by rw [h2, ha]; decide), if_pos h3]) (List.Perm.refl _) (fun _ _ => trivial)
        · refine JC_skip ?_
          refine JE_seq ?_
          refine JC_seq ?_
          refine JC_region ?_
          refine JL_pd rfl (det_assign rfl) ?_
          refine JL_nil ?_
          refine JE_seq ?_
          refine JC_ret ?_
          -- stop: out
          refine JE_out (.inl rfl) () (results1 Try.results19 (res_tmp rfl)) (by unfold shareE; rw [if_neg (by omega), if_neg (by rw [h2, ha]; decide), if_neg h3]) (List.Perm.refl _) (fun _ _ => trivial)
set_option maxRecDepth 100000 in
theorem Paid_j (sum : Int) (a : Option Addr) (c : Nat) (ws : List Int) (k : Nat) (V : VSh sum ws) (hW : ws.sum ≠ 0) (hk : k ≤ ws.length) : Cv Try.prog 20 [I sum, .slice a ws.length c, I k] (KSl a ws.length c encI ws) (I (paidV sum ws k)) := by
  have hn := V.n
  have hw := V.w
  refine Cx_of Try.func20 rfl Try.ntmps20 rfl fun w0 M0 => ?_
  refine JC_seq ?_
  refine JC_region ?_
  refine JL_pd rfl (det_assign rfl) ?_
  refine JL_nil ?_
  refine JE_seq ?_
  refine JC_seq ?_
  refine JC_region ?_
  refine JL_pd rfl (det_assign rfl) ?_
  refine JL_pd rfl (det_assign rfl) ?_
  refine JL_nil ?_
  refine JE_seq ?_
  refine JC_seq ?_
  refine JC_seq ?_
  refine JC_region ?_
  refine JL_pd rfl (det_assign rfl) ?_
  refine JL_nil ?_
  refine JE_seq ?_
  refine JC_block ?_
  -- stop: loop
  refine JC_loopF (γ := Nat) (fun i => i ≤ ws.length) (fun i => [(9, I i), (8, I (ws.take i).sum), (7, I (ws.take (min i k)).sum)]) (fun _ => []) (fun i => ws.length - i) 0 (Nat.zero_le _) (stsub_consI rfl rfl (stsub_consI rfl (by rw [List.take_zero]; rfl) (stsub_consI rfl (by rw [Nat.zero_min, List.take_zero]; rfl) stsub_nil))) ht_nil ?_
  intro i hi K hK
  dsimp only [List.cons_append, List.nil_append]
  have hbd := sum_bd (ws.take i) fun y hy => hw y (List.mem_of_mem_take hy)
  have hbd2 := sum_bd (ws.take (min i k)) fun y hy => hw y (List.mem_of_mem_take hy)
  rw [List.length_take] at hbd hbd2
  refine JC_seq ?_
  refine JC_seq ?_
  refine JC_region ?_
  refine JL_pd rfl (det_move rfl) ?_
  refine JL_pd rfl (det_move rfl) ?_
  refine JL_pd rfl (det_len rfl Try.runUnderlying22) ?_
  refine JL_pd rfl (det_lss rfl rfl) ?_
  refine JL_nil ?_
  refine JE_seq ?_
  -- stop: cond
  refine JC_if rfl (fun h1 => ?_) (fun h1 => ?_)
  · have hi2 : i < ws.length := by omega
    have hts := take_sum hi2
    have hwi := hw _ (List.getElem_mem hi2)
    refine JC_skip ?_
    refine JE_seq ?_
    refine JC_seq ?_
    refine JC_block ?_
    refine JC_seq ?_
    refine JC_region ?_
    refine JL_pd rfl (det_move rfl) ?_
    refine JL_pd rfl (det_move rfl) ?_
    refine JL_pd rfl (det_move rfl) ?_
    refine JL_dt rfl (det_indexAddr rfl rfl (by first | rfl | omega) (by first | assumption | omega | decide) Try.runUnderlying22 Try.sizeOf3) ?_
    refine JL_dt rfl (det_loadE rfl (by first | assumption | omega | decide) Try.isAgg3 rfl rfl) ?_
    refine JL_pd rfl (det_add rfl rfl ⟨by omega, by omega⟩) ?_
    refine JL_pd rfl (det_assign rfl) ?_
    refine JL_nil ?_
    refine JE_seq ?_
    refine JC_seq ?_
    refine JC_region ?_
    refine JL_pd rfl (det_move rfl) ?_
    refine JL_pd rfl (det_move rfl) ?_
    refine JL_pd rfl (det_lss rfl rfl) ?_
    refine JL_nil ?_
    refine JE_seq ?_
    -- stop: cond
    refine JC_if rfl (fun h2 => ?_) (fun h2 => ?_)
    · have hm : min i k = i := by omega
      have hm2 : min (i + 1) k = i + 1 := by omega
      rw [hm] at hbd2
      simp only [hm]
      refine JC_region ?_
      refine JL_pd rfl (det_move rfl) ?_
      refine JL_pd rfl (det_move rfl) ?_
      refine JL_pd rfl (det_move rfl) ?_
      refine JL_dt rfl (det_indexAddr rfl rfl (by first | rfl | omega) (by first | assumption | omega | decide) Try.runUnderlying22 Try.sizeOf3) ?_
      refine JL_dt rfl (det_loadE rfl (by first | assumption | omega | decide) Try.isAgg3 rfl rfl) ?_
      refine JL_pd rfl (det_add rfl rfl ⟨by omega, by omega⟩) ?_
      refine JL_pd rfl (det_assign rfl) ?_
      refine JL_nil ?_
      refine JE_block ?_
      refine JE_seq ?_
      refine JC_region ?_
      refine JL_pd rfl (det_move rfl) ?_
      refine JL_pd rfl (det_add rfl rfl ⟨by omega, by omega⟩) ?_
      refine JL_pd rfl (det_assign rfl) ?_
      refine JL_nil ?_
      -- stop: end
      refine JE_roundF hK (i + 1) (by omega) (by omega) (stsub_consI rfl (by omega) (stsub_consI rfl (by omega) (stsub_consI rfl (by rw [hm2]; omega) stsub_nil))) ht_nil
    · have hm2 : min (i + 1) k = min i k := by omega
      refine JC_skip ?_
      refine JE_block ?_
      refine JE_seq ?_
      refine JC_region ?_
      refine JL_pd rfl (det_move rfl) ?_
      refine JL_pd rfl (det_add rfl rfl ⟨by omega, by omega⟩) ?_
      refine JL_pd rfl (det_assign rfl) ?_
      refine JL_nil ?_
      -- stop: end
      refine JE_roundF hK (i + 1) (by omega) (by omega) (stsub_consI rfl (by omega) (stsub_consI rfl (by omega) (stsub_consI rfl (by rw [hm2]) stsub_nil))) ht_nil
  · obtain rfl : i = ws.length := by omega
    have hm : min ws.length k = k := by omega
    rw [List.take_length] at hbd ⊢
    simp only [hm]
    obtain ⟨p1, p2, p3, p4⟩ := paid_bd V hW k
    have hs1 := V.s1
    unfold paidV at p1 p2 ⊢
    refine JC_exit ?_
    refine JE_seq_exit ?_
    refine JE_then_exit ?_
    refine JE_block_here ?_
    refine JE_seq ?_
    refine JC_seq ?_
    refine JC_region ?_
    refine JL_pd rfl (det_move rfl) ?_
    refine JL_pd rfl (det_move rfl) ?_
    refine JL_pd rfl (det_mul rfl rfl ⟨by omega, by omega⟩) ?_
    refine JL_pd rfl (det_move rfl) ?_
    refine JL_pd rfl (det_quo rfl rfl (by omega) ⟨by omega, by omega⟩) ?_
    refine JL_pd rfl (det_assign rfl) ?_
    refine JL_nil ?_
    refine JE_seq ?_
    refine JC_ret ?_
    -- stop: out
    refine JE_out (.inl rfl) () (results1 Try.results20 (res_tmp rfl)) rfl (List.Perm.refl _) (fun _ _ => trivial)
theorem sharesN_get (sum : Int) (ws : List Int) : ∀ (n i : Nat) (h : i < (sharesN sum ws n).length), (sharesN sum ws n)[i] = paidV sum ws (i + 1) - paidV sum ws i
  | 0, i, h => by simp [sharesN] at h
  | n + 1, i, h => by
    have hl := sharesN_len sum ws n
    rw [sharesN_len] at h
    rw [List.getElem_of_eq (show sharesN sum ws (n + 1) = sharesN sum ws n ++ [paidV sum ws (n + 1) - paidV sum ws n] from rfl)]
    by_cases h2 : i < n
    · rw [List.getElem_append_left (by omega)]; exact sharesN_get sum ws n i (by omega)
    · obtain rfl : i = n := by omega
      rw [List.getElem_append_right (by omega)]
      simp
theorem sharesV_len (sum : Int) (ws : List Int) : (sharesV sum ws).length = ws.length := sharesN_len ..
theorem Share_jv (sum : Int) (a : Option Addr) (c : Nat) (ws : List Int) (h : shareE sum ws = 0) : Cr Try.prog 17 [I sum, .slice a ws.length c] (KSl a ws.length c encI ws) (fun q : Option Addr × Nat => .tuple #[.slice q.1 (sharesV sum ws).length q.2, I 0]) (fun q => KSl q.1 (sharesV sum ws).length q.2 encI (sharesV sum ws)) :=
  Cr.conv (Share_jo sum a c ws h) (fun q => by rw [sharesV_len]) (fun q w h => by rw [sharesV_len]; exact h)
theorem sharesV_get {sum : Int} {ws : List Int} {i : Nat} (h : i < (sharesV sum ws).length) : (sharesV sum ws)[i] = paidV sum ws (i + 1) - paidV sum ws i := sharesN_get ..
theorem paid_0 (sum : Int) (ws : List Int) : paidV sum ws 0 = 0 := by unfold paidV; simp
theorem paid_spec {sum : Int} {ws : List Int} (V : VSh sum ws) (hW : ws.sum ≠ 0) (k : Nat) : ∃ r, sum * (ws.take k).sum = ws.sum * paidV sum ws k + r ∧ 0 ≤ r ∧ r < ws.sum := by
  have hb := sum_bd ws V.w
  obtain ⟨p1, p2, p3, p4⟩ := paid_bd V hW k
  refine ⟨(sum * (ws.take k).sum) % ws.sum, ?_, Int.emod_nonneg _ hW, Int.emod_lt_of_pos _ (by omega)⟩
  unfold paidV
  rw [Int.tdiv_eq_ediv_of_nonneg p3, Int.mul_ediv_add_emod]
theorem paid_all {sum : Int} {ws : List Int} (hW : ws.sum ≠ 0) : paidV sum ws ws.length = sum := by
  unfold paidV
  rw [List.take_length, Int.mul_tdiv_cancel _ hW]
theorem paid_up {sum : Int} {ws : List Int} (V : VSh sum ws) (hW : ws.sum ≠ 0) (i : Nat) (h : i < ws.length) : 0 ≤ paidV sum ws (i + 1) - paidV sum ws i ∧ paidV sum ws (i + 1) - paidV sum ws i ≤ sum ∧ -ws.sum < (paidV sum ws (i + 1) - paidV sum ws i) * ws.sum - sum * ws[i] ∧ (paidV sum ws (i + 1) - paidV sum ws i) * ws.sum - sum * ws[i] < ws.sum ∧ (ws[i] = 0 → paidV sum ws (i + 1) - paidV sum ws i = 0) := by
  have hts := take_sum h
  obtain ⟨p1, p2, p3, p4⟩ := paid_bd V hW i
  obtain ⟨q1, q2, q3, q4⟩ := paid_bd V hW (i + 1)
  obtain ⟨r, e1, e2, e3⟩ := paid_spec V hW i
  obtain ⟨r', f1, f2, f3⟩ := paid_spec V hW (i + 1)
  have hw := V.w _ (List.getElem_mem h)
  have hs0 := V.s0
  have hm : 0 ≤ sum * ws[i] := Int.mul_nonneg hs0 hw.1
  rw [hts, Int.mul_add, e1] at f1
  have hd : (paidV sum ws (i + 1) - paidV sum ws i) * ws.sum = sum * ws[i] + r - r' := by
    rw [Int.mul_comm, Int.mul_sub]; omega
  have hup : 0 ≤ paidV sum ws (i + 1) - paidV sum ws i := by
    refine Int.not_lt.1 fun hlt => ?_
    have h1 : (paidV sum ws (i + 1) - paidV sum ws i) * ws.sum ≤ (-1) * ws.sum := Int.mul_le_mul_of_nonneg_right (by omega) (by omega)
    omega
  refine ⟨hup, by omega, by omega, by omega, fun h0 => ?_⟩
  unfold paidV
  rw [hts, h0, Int.add_zero, Int.sub_self]
set_option maxRecDepth 100000 in
set_option maxHeartbeats 1000000 in
theorem BillShares_j (sum : Int) (a : Option Addr) (c : Nat) (ws : List Int) : Cv Try.prog 3 [I sum, .slice a ws.length c] (KSl a ws.length c encI ws) (.bool true) := by
  refine Cx_of Try.func3 rfl Try.ntmps3 rfl fun w0 M0 => ?_
  refine JC_seq ?_
  refine JC_region ?_
  refine JL_pd rfl (det_assign rfl) ?_
  refine JL_nil ?_
  refine JE_seq ?_
  refine JC_seq ?_
  refine JC_seq ?_
  refine JC_region ?_
  refine JL_pd rfl (det_move rfl) ?_
  refine JL_pd rfl (det_len rfl Try.runUnderlying22) ?_
  refine JL_pd rfl (det_gtr rfl rfl) ?_
  refine JL_nil ?_
  refine JE_seq ?_
  -- stop: cond
  refine JC_if rfl (fun h1 => ?_) (fun h1 => ?_)
  · refine JC_seq ?_
    refine JC_region ?_
    refine JL_step rfl rfl rfl (jo_callv rfl rfl Try.call16 rfl (awake_j)) fun _ => ?_
    refine JL_pd rfl (det_assign rfl) ?_
    refine JL_nil ?_
    refine JE_seq ?_
    refine JC_ret ?_
    refine JE_seq_ret ?_
    -- stop: out
    refine JE_out (.inl rfl) () (results1 Try.results3 (res_tmp rfl)) rfl (List.Perm.refl _) (fun _ _ => trivial)
  · have hlj := lList_j ws a c (by omega)
    have hfj := ShareFault_j sum a c ws (by omega)
    refine JC_skip ?_
    refine JE_seq ?_
    refine JC_seq ?_
    refine JC_region ?_
    refine JL_pd rfl (det_move rfl) ?_
    refine JL_pd rfl (det_move rfl) ?_
    refine JL_step rfl rfl rfl (jo_call rfl rfl Try.call18 rfl (hlj)) fun x17 => ?_
    -- stop: op  3 t18 := (call (Call (value f17) (t15 t17) (3 22)))   <0 2 2>   130
    by_cases hE : shareE sum ws = 0
    · rw [hE] at hfj
      obtain ⟨V, hW⟩ := share_of hE
      have hwl := V.n
      have hsl := sharesV_len sum ws
      refine JL_step rfl rfl rfl (jo_call rfl rfl Try.call17 rfl (Share_jv sum x17.1 x17.2 ws hE)) fun xs => ?_
      refine JL_pd rfl (det_move rfl) ?_
      refine JL_pd rfl (det_extract rfl rfl) ?_
      refine JL_pd rfl (det_extract rfl rfl) ?_
      refine JL_pd rfl (det_assign rfl) ?_
      refine JL_pd rfl (det_assign rfl) ?_
      refine JL_nil ?_
      refine JE_seq ?_
      refine JC_seq ?_
      refine JC_seq ?_
      refine JC_region ?_
      refine JL_pd rfl (det_move rfl) ?_
      refine JL_pd rfl (det_move rfl) ?_
      refine JL_step rfl rfl rfl (jo_callv rfl rfl Try.call19 rfl (hfj)) fun _ => ?_
      refine JL_pd rfl (det_assign rfl) ?_
      refine JL_nil ?_
      refine JE_seq ?_
      refine JC_seq ?_
      refine JC_region ?_
      refine JL_pd rfl (det_move rfl) ?_
      refine JL_pd rfl (det_neq rfl rfl) ?_
      refine JL_nil ?_
      refine JE_seq ?_
      -- stop: cond
      refine JC_ifn rfl (fun h2 => ?_) (fun h2 => ?_)
      · exact absurd rfl h2
      refine JC_skip ?_
      refine JE_seq ?_
      refine JC_seq ?_
      refine JC_seq ?_
      refine JC_region ?_
      refine JL_pd rfl (det_move rfl) ?_
      refine JL_pd rfl (det_neq rfl rfl) ?_
      refine JL_pd rfl (det_move rfl) ?_
      -- stop: guard 2
      refine JL_is (d0 := 39) false rfl (by rfl) (fun g1 => ?_)
      refine JL_guard rfl rfl g1 ?_
      refine JL_pd rfl (det_move rfl) ?_
      refine JL_guard rfl rfl g1 ?_
      refine JL_pd rfl (det_len rfl Try.runUnderlying22) ?_
      refine JL_guard rfl rfl g1 ?_
      refine JL_pd rfl (det_move rfl) ?_
      refine JL_guard rfl rfl g1 ?_
      refine JL_pd rfl (det_len rfl Try.runUnderlying22) ?_
      refine JL_guard rfl rfl g1 ?_
      refine JL_pd rfl (det_neq rfl rfl) ?_
      refine JL_pd rfl (det_pick_f rfl g1 rfl) ?_
      refine JL_nil ?_
      refine JE_seq ?_
      -- stop: cond
      refine JC_ifn rfl (fun h3 => ?_) (fun h3 => ?_)
      · exact absurd (by omega) h3
      refine JC_skip ?_
      refine JE_seq ?_
      refine JC_seq ?_
      refine JC_region ?_
      refine JL_pd rfl (det_assign rfl) ?_
      refine JL_nil ?_
      refine JE_seq ?_
      refine JC_seq ?_
      refine JC_seq ?_
      refine JC_region ?_
      refine JL_pd rfl (det_assign rfl) ?_
      refine JL_nil ?_
      refine JE_seq ?_
      refine JC_block ?_
      -- stop: loop
      refine JC_loopF (γ := Nat) (fun i => i ≤ ws.length) (fun i => [(9, I i), (8, I (paidV sum ws i))]) (fun _ => []) (fun i => ws.length - i) 0 (Nat.zero_le _) (stsub_consI rfl rfl (stsub_consI rfl (paid_0 sum ws).symm stsub_nil)) ht_nil ?_
      intro i hi K hK
      dsimp only [List.cons_append, List.nil_append]
      refine JC_seq ?_
      refine JC_seq ?_
      refine JC_region ?_
      refine JL_pd rfl (det_move rfl) ?_
      refine JL_pd rfl (det_move rfl) ?_
      refine JL_pd rfl (det_len rfl Try.runUnderlying22) ?_
      refine JL_pd rfl (det_lss rfl rfl) ?_
      refine JL_nil ?_
      refine JE_seq ?_
      -- stop: cond
      refine JC_if rfl (fun h4 => ?_) (fun h4 => ?_)
      · have hi2 : i < ws.length := by omega
        have hi3 : i < (sharesV sum ws).length := by omega
        obtain ⟨p1, p2, p3, p4⟩ := paid_bd V hW i
        obtain ⟨q1, q2, q3, q4⟩ := paid_bd V hW (i + 1)
        have hs1 := V.s1
        have hsg := sharesV_get hi3
        have hpj := Paid_j sum a c ws (i + 1) V hW (by omega)
        refine JC_skip ?_
        refine JE_seq ?_
        refine JC_seq ?_
        refine JC_block ?_
        refine JC_seq ?_
        refine JC_region ?_
        refine JL_pd rfl (det_move rfl) ?_
        refine JL_pd rfl (det_move rfl) ?_
        refine JL_pd rfl (det_move rfl) ?_
        refine JL_dt rfl (det_indexAddr rfl rfl (by first | rfl | omega) (by first | assumption | omega | decide) Try.runUnderlying22 Try.sizeOf3) ?_
        refine JL_dt rfl (det_loadE rfl (by first | assumption | omega | decide) Try.isAgg3 rfl rfl) ?_
        refine JL_pd rfl (det_add rfl rfl ⟨by omega, by omega⟩) ?_
        refine JL_pd rfl (det_assign rfl) ?_
        refine JL_nil ?_
        refine JE_seq ?_
        refine JC_seq ?_
        refine JC_region ?_
        refine JL_pd rfl (det_move rfl) ?_
        refine JL_pd rfl (det_move rfl) ?_
        refine JL_pd rfl (det_move rfl) ?_
        refine JL_pd rfl (det_move rfl) ?_
        refine JL_pd rfl (det_add rfl rfl ⟨by omega, by omega⟩) ?_
        refine JL_step rfl rfl rfl (jo_callv rfl rfl Try.call20 rfl (hpj)) fun _ => ?_
        refine JL_pd rfl (det_neq rfl rfl) ?_
        refine JL_nil ?_
        refine JE_seq ?_
        -- stop: cond
        refine JC_ifn rfl (fun h5 => ?_) (fun h5 => ?_)
        · exact absurd (by omega) h5
        refine JC_skip ?_
        refine JE_block ?_
        refine JE_seq ?_
        refine JC_region ?_
        refine JL_pd rfl (det_move rfl) ?_
        refine JL_pd rfl (det_add rfl rfl ⟨by omega, by omega⟩) ?_
        refine JL_pd rfl (det_assign rfl) ?_
        refine JL_nil ?_
        -- stop: end
        refine JE_roundF hK (i + 1) (by omega) (by omega) (stsub_consI rfl (by omega) (stsub_consI rfl (by omega) stsub_nil)) ht_nil
      · refine JC_exit ?_
        refine JE_seq_exit ?_
        refine JE_then_exit ?_
        refine JE_block_here ?_
        refine JE_seq ?_
        refine JC_seq ?_
        refine JC_region ?_
        refine JL_step rfl rfl rfl (jo_callv rfl rfl Try.call16 rfl (awake_j)) fun _ => ?_
        refine JL_pd rfl (det_assign rfl) ?_
        refine JL_nil ?_
        refine JE_seq ?_
        refine JC_ret ?_
        -- stop: out
        refine JE_out (.inl rfl) () (results1 Try.results3 (res_tmp rfl)) rfl (List.Perm.refl _) (fun _ _ => trivial)
    · have hfe := Share_je
      refine JL_step rfl rfl rfl (jo_callv rfl rfl Try.call17 rfl (Share_je sum x17.1 x17.2 ws hE)) fun _ => ?_
      refine JL_pd rfl (det_move rfl) ?_
      refine JL_pd rfl (det_extract rfl rfl) ?_
      refine JL_pd rfl (det_extract rfl rfl) ?_
      refine JL_pd rfl (det_assign rfl) ?_
      refine JL_pd rfl (det_assign rfl) ?_
      refine JL_nil ?_
      refine JE_seq ?_
      refine JC_seq ?_
      refine JC_seq ?_
      refine JC_region ?_
      refine JL_pd rfl (det_move rfl) ?_
      refine JL_pd rfl (det_move rfl) ?_
      refine JL_step rfl rfl rfl (jo_callv rfl rfl Try.call19 rfl (hfj)) fun _ => ?_
      refine JL_pd rfl (det_assign rfl) ?_
      refine JL_nil ?_
      refine JE_seq ?_
      refine JC_seq ?_
      refine JC_region ?_
      refine JL_pd rfl (det_move rfl) ?_
      refine JL_pd rfl (det_neq rfl rfl) ?_
      refine JL_nil ?_
      refine JE_seq ?_
      -- stop: cond
      generalize hG : shareE sum ws = E at hE
      refine JC_ifn rfl (fun h2 => ?_) (fun h2 => ?_)
      · refine JC_seq ?_
        refine JC_region ?_
        refine JL_pd rfl (det_move rfl) ?_
        refine JL_pd rfl (det_move rfl) ?_
        refine JL_pd rfl (det_eql rfl rfl) ?_
        refine JL_pd rfl (det_move rfl) ?_
        -- stop: guard 3
        refine JL_is (d0 := 29) true rfl (by exact decide_eq_true rfl) (fun g1 => ?_)
        refine JL_guard rfl rfl g1 ?_
        refine JL_pd rfl (det_move rfl) ?_
        refine JL_guard rfl rfl g1 ?_
        refine JL_pd rfl (det_len rfl Try.runUnderlying22) ?_
        refine JL_guard rfl rfl g1 ?_
        refine JL_pd rfl (det_eql rfl rfl) ?_
        refine JL_pd rfl (det_pick_t rfl g1 rfl) ?_
        refine JL_pd rfl (det_move rfl) ?_
        -- stop: guard 8
        refine JL_is (d0 := 34) true rfl (by rfl) (fun g2 => ?_)
        refine JL_guard rfl rfl g2 ?_
        refine JL_step rfl rfl rfl (jo_callv rfl rfl Try.call16 rfl (awake_j)) fun _ => ?_
        refine JL_pd rfl (det_pick_t rfl g2 rfl) ?_
        refine JL_pd rfl (det_assign rfl) ?_
        refine JL_nil ?_
        refine JE_seq ?_
        refine JC_ret ?_
        refine JE_seq_ret ?_
        -- stop: out
        refine JE_out (.inl rfl) () (results1 Try.results3 (res_tmp rfl)) rfl (List.Perm.refl _) (fun _ _ => trivial)
      · exact absurd h2 hE
end Go.Proofs.Ytjbmkdbgobmclaa

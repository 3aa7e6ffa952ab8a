/- The statement TopCharged: the walk. -/
import Derived.Test.YthpkgabckklojaaGreatZG
import Derived.Test.YthpkgabckklojaaGreatZ6
import Derived.Test.YthpkgabckklojaaGreatZF
import Derived.Test.YthpkgabckklojaaGreatZC
set_option linter.unusedSimpArgs false
set_option linter.unusedVariables false
namespace Go.Proofs.YthpkgabckklojaaGreat.Bl
open Go.RowKit Go.Shelf

/-- Best, where what is asked is valid: its error is none, or that there is no purchase. -/
theorem bb {l : List Of} {need : Am} {at_ : Int} (h : askE l need at_ = 0) : (bErr l need at_ = 0 ∨ bErr l need at_ = 9) ∧ 0 ≤ bCost (bR l need at_) ∧ bCost (bR l need at_) ≤ 720000 := by
  obtain ⟨ht, hna, _⟩ := ask_of h
  obtain ⟨hl, hV⟩ := tar_of ht
  rcases bErr_cases h with ⟨e, hb⟩ | ⟨b, hb, e, hc⟩
  · rw [(bR_none h hb).1]
    exact ⟨.inr e, Int.le_refl _, by decide⟩
  · obtain ⟨s1, s2, s3⟩ := bst_sound at_ l need b hV (am12_of hna) hb
    have h0 := hvP_0 hV s1
    have e2 : b.cost = coP l b.list := congrArg Bt.cost s3
    rw [hc]
    exact ⟨.inl e, by omega, by omega⟩
theorem bb_le {l l' : List Of} {need need' : Am} {at_ : Int} (h : askE l need at_ = 0) (h' : askE l' need' at_ = 0) (hle : ∀ b, bst at_ l need = some b → ∃ c, bst at_ l' need' = some c ∧ c.cost ≤ b.cost) : bErr l need at_ = 0 → bErr l' need' at_ = 0 ∧ bCost (bR l' need' at_) ≤ bCost (bR l need at_) := fun e => by
  rcases bErr_cases h with ⟨e1, _⟩ | ⟨b, hb, _, hc⟩
  · omega
  · obtain ⟨d, hd, hdc⟩ := hle b hb
    obtain ⟨f1, f2⟩ := bR_ok h' hd
    rw [f1, f2, hc]
    exact ⟨rfl, hdc⟩
set_option maxRecDepth 100000 in
set_option maxHeartbeats 2000000 in
set_option synthInstance.maxHeartbeats 1000000 in
set_option synthInstance.maxSize 2000 in
theorem TopCharged_j (x : En.Hx) (ga : Option Addr) (gc : Nat) (xs : List En.Gx) (oa : Option Addr) (oc : Nat) (l : List Of) (hr : Int) (hh : 0 ≤ hr ∧ hr ≤ 255) :
    Cv Tryz.prog 4 [.agg #[I x.h.lanes, .slice x.a x.h.shoes.length x.c], .slice ga xs.length gc, .slice oa l.length oc, .int .u8 hr] (KAnd (En.KHx x) (KAnd (En.KGs ga gc xs) (KSl oa l.length oc encO l))) (.bool true) := by
  refine Cx_of Tryz.func4 rfl Tryz.ntmps4 rfl fun w0 M0 => ?_
  refine JC_seq ?_
  refine JC_region ?_
  refine JL_step rfl rfl rfl (jo_box rfl rfl) fun b4 => ?_
  refine JL_pd rfl (det_assign rfl) ?_
  refine JL_nil ?_
  refine JE_seq ?_
  refine JC_seq ?_
  refine JC_seq ?_
  refine JC_region ?_
  refine JL_dt rfl (det_loadKA rfl Tryz.isAgg79 Tryz.sizeOf79 rfl rfl) ?_
  refine JL_pd rfl (det_move rfl) ?_
  refine JL_step rfl rfl rfl (jo_callv rfl rfl Tryz.call27 rfl (En.Thin_j x ga gc xs)) fun _ => ?_
  refine JL_pd rfl (det_not rfl) ?_
  refine JL_pd rfl (det_move rfl) ?_
  -- stop: guard 4
  by_cases hl9 : 9 < l.length
  · skip
    refine JL_join1 11 44 (.bool true) (fun hj => ?_) ?_
    · refine JL_split (d0 := 33) rfl (fun q1 => ?_) (fun q1 => ?_)
      · refine JL_skip rfl rfl q1 rfl ?_
        refine JL_skip rfl rfl q1 rfl ?_
        refine JL_skip rfl rfl q1 rfl ?_
        refine JL_skip rfl rfl q1 rfl ?_
        refine JL_pd rfl (det_pick_t rfl q1 rfl) ?_
        refine JL_pd rfl (det_move rfl) ?_
        refine JL_skip rfl rfl rfl rfl ?_
        refine JL_skip rfl rfl rfl rfl ?_
        refine JL_skip rfl rfl rfl rfl ?_
        refine JL_pd rfl (det_pick_t rfl rfl rfl) ?_
        refine JL_pd rfl (det_move rfl) ?_
        exact hj (by kernel_rfl) (stsub_consB rfl (by clear hj; first | rfl | (simp only [q1, Bool.and_true, Bool.true_and, Bool.false_and, Bool.and_false, Bool.or_true, Bool.true_or, Bool.or_false, Bool.false_or, Bool.not_true, Bool.not_false]; done) | (simp [q1]; done) | (simp at q1; done) | (simp [q1] <;> omega) | (exfalso; simp at q1; omega)) stsub_nil)
      · refine JL_guard rfl rfl q1 ?_
        refine JL_dt rfl (det_loadKA rfl Tryz.isAgg79 Tryz.sizeOf79 rfl rfl) ?_
        refine JL_guard rfl rfl q1 ?_
        refine JL_pd rfl (det_move rfl) ?_
        refine JL_guard rfl rfl q1 ?_
        refine JL_step rfl rfl rfl (jo_callv rfl rfl Tryz.call28 rfl (En.Fault_j x ga gc xs)) fun _ => ?_
        refine JL_guard rfl rfl q1 ?_
        refine JL_pd rfl (det_neq rfl rfl) ?_
        refine JL_pd rfl (det_pick_f rfl q1 rfl) ?_
        refine JL_pd rfl (det_move rfl) ?_
        refine JL_split (d0 := 39) rfl (fun q2 => ?_) (fun q2 => ?_)
        · refine JL_skip rfl rfl q2 rfl ?_
          refine JL_skip rfl rfl q2 rfl ?_
          refine JL_skip rfl rfl q2 rfl ?_
          refine JL_pd rfl (det_pick_t rfl q2 rfl) ?_
          refine JL_pd rfl (det_move rfl) ?_
          exact hj (by kernel_rfl) (stsub_consB rfl (by clear hj; first | rfl | (simp only [q1, q2, Bool.and_true, Bool.true_and, Bool.false_and, Bool.and_false, Bool.or_true, Bool.true_or, Bool.or_false, Bool.false_or, Bool.not_true, Bool.not_false]; done) | (simp [q1, q2]; done) | (simp at q1; done) | (simp at q2; done) | (simp [q1, q2] <;> omega) | (exfalso; simp at q1 q2; omega) | (simp [q2] at q1; done) | (simp [q1] at q2; done)) stsub_nil)
        · refine JL_guard rfl rfl q2 ?_
          refine JL_pd rfl (det_move rfl) ?_
          refine JL_guard rfl rfl q2 ?_
          refine JL_pd rfl (det_len rfl Tryz.runUnderlying81) ?_
          refine JL_guard rfl rfl q2 ?_
          refine JL_pd rfl (det_gtr rfl rfl) ?_
          refine JL_pd rfl (det_pick_f rfl q2 rfl) ?_
          refine JL_pd rfl (det_move rfl) ?_
          exact hj (by kernel_rfl) (stsub_consB rfl (by clear hj; first | rfl | (simp only [q1, q2, Bool.and_true, Bool.true_and, Bool.false_and, Bool.and_false, Bool.or_true, Bool.true_or, Bool.or_false, Bool.false_or, Bool.not_true, Bool.not_false]; done) | (simp [q1, q2]; done) | (simp at q1; done) | (simp at q2; done) | (simp [q1, q2] <;> omega) | (exfalso; simp at q1 q2; omega) | (simp [q2] at q1; done) | (simp [q1] at q2; done)) stsub_nil)
    refine JL_skip rfl rfl rfl rfl ?_
    refine JL_skip rfl rfl rfl rfl ?_
    refine JL_skip rfl rfl rfl rfl ?_
    refine JL_pd rfl (det_pick_t rfl rfl rfl) ?_
    refine JL_nil ?_
    refine JE_seq ?_
    refine JC_condT rfl rfl ?_
    refine JC_seq ?_
    refine JC_region ?_
    refine JL_step rfl rfl rfl (jo_callv rfl rfl Tryz.call30 rfl (charged_j)) fun _ => ?_
    refine JL_pd rfl (det_assign rfl) ?_
    refine JL_nil ?_
    refine JE_seq ?_
    refine JC_ret ?_
    refine JE_seq_ret ?_
    -- stop: out
    refine JE_out (.inl rfl) () (results1 Tryz.results4 (res_tmp rfl)) rfl (List.Perm.refl _) (fun _ _ => trivial)
  · skip
    have hFj := Fault_j oa oc l (by omega)
    refine JL_join1 15 48 (.bool (!(En.thinB x.h (En.gs xs) && (decide (En.fault x.h (En.gs xs) = 0) && decide (tarE l = 0))))) (fun hj => ?_) ?_
    · refine JL_split (d0 := 33) rfl (fun q3 => ?_) (fun q3 => ?_)
      · refine JL_skip rfl rfl q3 rfl ?_
        refine JL_skip rfl rfl q3 rfl ?_
        refine JL_skip rfl rfl q3 rfl ?_
        refine JL_skip rfl rfl q3 rfl ?_
        refine JL_pd rfl (det_pick_t rfl q3 rfl) ?_
        refine JL_pd rfl (det_move rfl) ?_
        refine JL_skip rfl rfl rfl rfl ?_
        refine JL_skip rfl rfl rfl rfl ?_
        refine JL_skip rfl rfl rfl rfl ?_
        refine JL_pd rfl (det_pick_t rfl rfl rfl) ?_
        refine JL_pd rfl (det_move rfl) ?_
        refine JL_skip rfl rfl rfl rfl ?_
        refine JL_skip rfl rfl rfl rfl ?_
        refine JL_skip rfl rfl rfl rfl ?_
        refine JL_pd rfl (det_pick_t rfl rfl rfl) ?_
        exact hj (by kernel_rfl) (stsub_consB rfl (by clear hj; first | rfl | (simp only [q3, Bool.and_true, Bool.true_and, Bool.false_and, Bool.and_false, Bool.or_true, Bool.true_or, Bool.or_false, Bool.false_or, Bool.not_true, Bool.not_false]; done) | (simp [q3]; done) | (simp at q3; done) | (simp [q3] <;> omega) | (exfalso; simp at q3; omega)) stsub_nil)
      · refine JL_guard rfl rfl q3 ?_
        refine JL_dt rfl (det_loadKA rfl Tryz.isAgg79 Tryz.sizeOf79 rfl rfl) ?_
        refine JL_guard rfl rfl q3 ?_
        refine JL_pd rfl (det_move rfl) ?_
        refine JL_guard rfl rfl q3 ?_
        refine JL_step rfl rfl rfl (jo_callv rfl rfl Tryz.call28 rfl (En.Fault_j x ga gc xs)) fun _ => ?_
        refine JL_guard rfl rfl q3 ?_
        refine JL_pd rfl (det_neq rfl rfl) ?_
        refine JL_pd rfl (det_pick_f rfl q3 rfl) ?_
        refine JL_pd rfl (det_move rfl) ?_
        refine JL_split (d0 := 39) rfl (fun q4 => ?_) (fun q4 => ?_)
        · refine JL_skip rfl rfl q4 rfl ?_
          refine JL_skip rfl rfl q4 rfl ?_
          refine JL_skip rfl rfl q4 rfl ?_
          refine JL_pd rfl (det_pick_t rfl q4 rfl) ?_
          refine JL_pd rfl (det_move rfl) ?_
          refine JL_skip rfl rfl rfl rfl ?_
          refine JL_skip rfl rfl rfl rfl ?_
          refine JL_skip rfl rfl rfl rfl ?_
          refine JL_pd rfl (det_pick_t rfl rfl rfl) ?_
          exact hj (by kernel_rfl) (stsub_consB rfl (by clear hj; first | rfl | (simp only [q3, q4, Bool.and_true, Bool.true_and, Bool.false_and, Bool.and_false, Bool.or_true, Bool.true_or, Bool.or_false, Bool.false_or, Bool.not_true, Bool.not_false]; done) | (simp [q3, q4]; done) | (simp at q3; done) | (simp at q4; done) | (simp [q3, q4] <;> omega) | (exfalso; simp at q3 q4; omega) | (simp [q4] at q3; done) | (simp [q3] at q4; done)) stsub_nil)
        · refine JL_guard rfl rfl q4 ?_
          refine JL_pd rfl (det_move rfl) ?_
          refine JL_guard rfl rfl q4 ?_
          refine JL_pd rfl (det_len rfl Tryz.runUnderlying81) ?_
          refine JL_guard rfl rfl q4 ?_
          refine JL_pd rfl (det_gtr rfl rfl) ?_
          refine JL_pd rfl (det_pick_f rfl q4 rfl) ?_
          refine JL_pd rfl (det_move rfl) ?_
          refine JL_split (d0 := 44) rfl (fun q5 => ?_) (fun q5 => ?_)
          · refine JL_skip rfl rfl q5 rfl ?_
            refine JL_skip rfl rfl q5 rfl ?_
            refine JL_skip rfl rfl q5 rfl ?_
            refine JL_pd rfl (det_pick_t rfl q5 rfl) ?_
            exact hj (by kernel_rfl) (stsub_consB rfl (by clear hj; first | rfl | (simp only [q3, q4, q5, Bool.and_true, Bool.true_and, Bool.false_and, Bool.and_false, Bool.or_true, Bool.true_or, Bool.or_false, Bool.false_or, Bool.not_true, Bool.not_false]; done) | (simp [q3, q4, q5]; done) | (simp at q3; done) | (simp at q4; done) | (simp at q5; done) | (simp [q3, q4, q5] <;> omega) | (exfalso; simp at q3 q4 q5; omega) | (simp [q4, q5] at q3; done) | (simp [q3, q5] at q4; done) | (simp [q3, q4] at q5; done)) stsub_nil)
          · refine JL_guard rfl rfl q5 ?_
            refine JL_pd rfl (det_move rfl) ?_
            refine JL_guard rfl rfl q5 ?_
            refine JL_step rfl rfl rfl (jo_callv rfl rfl Tryz.call29 rfl (hFj)) fun _ => ?_
            refine JL_guard rfl rfl q5 ?_
            refine JL_pd rfl (det_neq rfl rfl) ?_
            refine JL_pd rfl (det_pick_f rfl q5 rfl) ?_
            exact hj (by kernel_rfl) (stsub_consB rfl (by clear hj; first | rfl | (simp only [q3, q4, q5, Bool.and_true, Bool.true_and, Bool.false_and, Bool.and_false, Bool.or_true, Bool.true_or, Bool.or_false, Bool.false_or, Bool.not_true, Bool.not_false]; done) | (simp [q3, q4, q5]; done) | (simp at q3; done) | (simp at q4; done) | (simp at q5; done) | (simp [q3, q4, q5] <;> omega) | (exfalso; simp at q3 q4 q5; omega) | (simp [q4, q5] at q3; done) | (simp [q3, q5] at q4; done) | (simp [q3, q4] at q5; done)) stsub_nil)
    refine JL_nil ?_
    refine JE_seq ?_
    -- stop: cond
    refine JC_cond rfl (fun h1 => ?_) (fun h1 => ?_)
    · refine JC_seq ?_
      refine JC_region ?_
      refine JL_step rfl rfl rfl (jo_callv rfl rfl Tryz.call30 rfl (charged_j)) fun _ => ?_
      refine JL_pd rfl (det_assign rfl) ?_
      refine JL_nil ?_
      refine JE_seq ?_
      refine JC_ret ?_
      refine JE_seq_ret ?_
      -- stop: out
      refine JE_out (.inl rfl) () (results1 Tryz.results4 (res_tmp rfl)) rfl (List.Perm.refl _) (fun _ _ => trivial)
    · simp only [Bool.not_eq_false', Bool.and_eq_true, decide_eq_true_eq] at h1
      obtain ⟨h0, hF0, hT0⟩ := h1
      have V := En.vld_of hF0
      have hgl : (En.gs xs).length = xs.length := List.length_map _
      have hxl : xs.length ≤ 8 := by have := V.n; omega
      have hft : ∀ y ∈ xs, y.g.feet.length ≤ 1000 := fun y hy => by have := V.fw y.g (List.mem_map.2 ⟨y, hy, rfl⟩); omega
      have hsn := V.hs.n
      have hHj := En.lHouse_j x (by omega)
      obtain ⟨hl6, hVo⟩ := tar_of hT0
      refine JC_skip ?_
      refine JE_seq ?_
      refine JC_seq ?_
      refine JC_region ?_
      refine JL_dt rfl (det_loadKA rfl Tryz.isAgg79 Tryz.sizeOf79 rfl rfl) ?_
      refine JL_step rfl rfl rfl (jo_call rfl rfl Tryz.call32 rfl (hHj)) fun x52 => ?_
      refine JL_pd rfl (det_move rfl) ?_
      refine JL_step rfl rfl rfl (jo_call rfl rfl Tryz.call33 rfl (En.lGroups_j ga gc xs (by omega) hft)) fun x54 => ?_
      refine JL_step rfl rfl rfl (jo_call rfl rfl Tryz.call31 rfl (En.Serve_c x x52 xs x54 hF0)) fun x55 => ?_
      refine JL_pd rfl (det_move rfl) ?_
      refine JL_pd rfl (det_extract rfl rfl) ?_
      refine JL_pd rfl (det_extract rfl rfl) ?_
      refine JL_pd rfl (det_assign rfl) ?_
      refine JL_pd rfl (det_assign rfl) ?_
      refine JL_nil ?_
      refine JE_seq ?_
      refine JC_seq ?_
      refine JC_seq ?_
      refine JC_region ?_
      refine JL_pd rfl (det_move rfl) ?_
      refine JL_pd rfl (det_neq rfl rfl) ?_
      refine JL_pd rfl (det_move rfl) ?_
      -- stop: guard 2
      obtain ⟨pb, p, hp⟩ := x55
      have hF := En.serve_facts V.gr hp
      have hpn : p.length = xs.length := by rw [hF.n, hgl]
      simp only
      refine JL_join1 6 66 (.bool false) (fun hj => ?_) ?_
      · refine JL_split (d0 := 60) rfl (fun q6 => ?_) (fun q6 => ?_)
        · refine JL_skip rfl rfl q6 rfl ?_
          refine JL_skip rfl rfl q6 rfl ?_
          refine JL_skip rfl rfl q6 rfl ?_
          refine JL_skip rfl rfl q6 rfl ?_
          refine JL_skip rfl rfl q6 rfl ?_
          refine JL_pd rfl (det_pick_t rfl q6 rfl) ?_
          exact hj (by kernel_rfl) (stsub_consB rfl (by clear hj; first | rfl | (simp only [hpn, q6, Bool.and_true, Bool.true_and, Bool.false_and, Bool.and_false, Bool.or_true, Bool.true_or, Bool.or_false, Bool.false_or, Bool.not_true, Bool.not_false]; done) | (simp [hpn, q6]; done) | (simp [hpn] at q6; done) | (simp [hpn, q6] <;> omega) | (exfalso; simp [hpn] at q6; omega) | (simp [q6] at hpn; done) | (simp [q6] at hpn; simp [q6, hpn]; done)) stsub_nil)
        · refine JL_guard rfl rfl q6 ?_
          refine JL_pd rfl (det_move rfl) ?_
          refine JL_guard rfl rfl q6 ?_
          refine JL_pd rfl (det_len rfl Tryz.runUnderlying31) ?_
          refine JL_guard rfl rfl q6 ?_
          refine JL_pd rfl (det_move rfl) ?_
          refine JL_guard rfl rfl q6 ?_
          refine JL_pd rfl (det_len rfl Tryz.runUnderlying80) ?_
          refine JL_guard rfl rfl q6 ?_
          refine JL_pd rfl (det_neq rfl rfl) ?_
          refine JL_pd rfl (det_pick_f rfl q6 rfl) ?_
          exact hj (by kernel_rfl) (stsub_consB rfl (by clear hj; first | rfl | (simp only [hpn, q6, Bool.and_true, Bool.true_and, Bool.false_and, Bool.and_false, Bool.or_true, Bool.true_or, Bool.or_false, Bool.false_or, Bool.not_true, Bool.not_false]; done) | (simp [hpn, q6]; done) | (simp [hpn] at q6; done) | (simp [hpn, q6] <;> omega) | (exfalso; simp [hpn] at q6; omega) | (simp [q6] at hpn; done) | (simp [q6] at hpn; simp [q6, hpn]; done)) stsub_nil)
      refine JL_nil ?_
      refine JE_seq ?_
      refine JC_condF rfl rfl ?_
      refine JC_skip ?_
      refine JE_seq ?_
      refine JC_seq ?_
      refine JC_seq ?_
      refine JC_region ?_
      refine JL_pd rfl (det_assign rfl) ?_
      refine JL_nil ?_
      refine JE_seq ?_
      refine JC_block ?_
      -- stop: loop
      refine JC_loopF (γ := Nat) (fun i => i ≤ xs.length) (fun i => [(11, I i)]) (fun _ => []) (fun i => xs.length - i) 0 (Nat.zero_le _) (stsub_consI rfl rfl stsub_nil) ht_nil ?_
      intro i hi K hK
      dsimp only [List.cons_append, List.nil_append]
      refine JC_seq ?_
      refine JC_seq ?_
      refine JC_region ?_
      refine JL_pd rfl (det_move rfl) ?_
      refine JL_pd rfl (det_move rfl) ?_
      refine JL_pd rfl (det_len rfl Tryz.runUnderlying80) ?_
      refine JL_pd rfl (det_lss rfl rfl) ?_
      refine JL_nil ?_
      refine JE_seq ?_
      -- stop: cond
      refine JC_if rfl (fun h2 => ?_) (fun h2 => ?_)
      · have hi2 : i < xs.length := by omega
        have hpi : i < p.length := by omega
        have hVg := V.gr xs[i].g (List.mem_map.2 ⟨xs[i], List.getElem_mem hi2, rfl⟩)
        have hfw := V.fw xs[i].g (List.mem_map.2 ⟨xs[i], List.getElem_mem hi2, rfl⟩)
        have v1 := hVg.f0
        have v2 := hVg.fl
        have v3 := hVg.lh
        have v4 := hVg.h1
        refine JC_skip ?_
        refine JE_seq ?_
        refine JC_seq ?_
        refine JC_block ?_
        refine JC_seq ?_
        refine JC_draw [] (by kernel_rfl) ?_
        refine JA_pd (i := 0) rfl (by kernel_rfl) rfl rfl (det_move rfl) ?_
        refine JA_pd (i := 1) rfl (by kernel_rfl) rfl rfl (det_move rfl) ?_
        refine JA_dt (i := 2) rfl (by kernel_rfl) (by kernel_rfl) rfl rfl (det_indexAddr rfl rfl (by first | rfl | omega) (by first | assumption | omega | decide) Tryz.runUnderlying80 Tryz.sizeOf92) ?_
        refine JA_pd (i := 3) rfl (by kernel_rfl) rfl rfl (det_fieldAddrE rfl fo_92_1) ?_
        refine JA_pd (i := 4) rfl (by kernel_rfl) rfl rfl (det_fieldAddrEk (k2 := 2) rfl fo_90_1 rfl) ?_
        refine JA_dt (i := 5) rfl (by kernel_rfl) (by kernel_rfl) rfl rfl (det_loadEk rfl (by first | assumption | omega | decide) Tryz.isAgg3 rfl rfl) ?_
        refine JA_pd (i := 6) rfl (by kernel_rfl) rfl rfl (det_move rfl) ?_
        refine JA_pd (i := 7) rfl (by kernel_rfl) rfl rfl (det_move rfl) ?_
        refine JA_dt (i := 8) rfl (by kernel_rfl) (by kernel_rfl) rfl rfl (det_indexAddr rfl rfl (by first | rfl | omega) (by first | assumption | omega | decide) Tryz.runUnderlying80 Tryz.sizeOf92) ?_
        refine JA_pd (i := 9) rfl (by kernel_rfl) rfl rfl (det_fieldAddrE rfl fo_92_0) ?_
        refine JA_dt (i := 10) rfl (by kernel_rfl) (by kernel_rfl) rfl rfl (det_loadEk rfl (by first | assumption | omega | decide) Tryz.isAgg3 rfl rfl) ?_
        refine JA_pd (i := 11) rfl (by kernel_rfl) rfl rfl (det_sub rfl rfl ⟨by omega, by omega⟩) ?_
        refine JA_pd (i := 12) rfl (by kernel_rfl) rfl rfl (det_add rfl rfl ⟨by omega, by omega⟩) ?_
        refine JA_pd (i := 13) rfl (by kernel_rfl) rfl rfl (det_assign rfl) ?_
        refine JA_done (by kernel_rfl) ?_
        refine JE_seq ?_
        refine JC_seq ?_
        refine JC_seq ?_
        refine JC_region ?_
        refine JL_pd rfl (det_move rfl) ?_
        refine JL_pd rfl (det_move rfl) ?_
        refine JL_dt rfl (det_indexAddr rfl rfl (by first | rfl | omega) (by first | assumption | omega | decide) Tryz.runUnderlying31 Tryz.sizeOf3) ?_
        refine JL_dt rfl (det_loadE rfl (by first | assumption | omega | decide) Tryz.isAgg3 rfl rfl) ?_
        refine JL_pd rfl (det_lss rfl rfl) ?_
        refine JL_pd rfl (det_move rfl) ?_
        -- stop: guard 5
        refine JL_join1 12 103 (.bool (decide (p[i] < 0) || (decide (3 < xs[i].g.hi - xs[i].g.fr + 1) || decide ((xs[i].g.feet.length : Int) = 0)))) (fun hj => ?_) ?_
        · refine JL_split (d0 := 91) rfl (fun q7 => ?_) (fun q7 => ?_)
          · refine JL_skip rfl rfl q7 rfl ?_
            refine JL_skip rfl rfl q7 rfl ?_
            refine JL_pd rfl (det_pick_t rfl q7 rfl) ?_
            refine JL_pd rfl (det_move rfl) ?_
            refine JL_skip rfl rfl rfl rfl ?_
            refine JL_skip rfl rfl rfl rfl ?_
            refine JL_skip rfl rfl rfl rfl ?_
            refine JL_skip rfl rfl rfl rfl ?_
            refine JL_skip rfl rfl rfl rfl ?_
            refine JL_skip rfl rfl rfl rfl ?_
            refine JL_skip rfl rfl rfl rfl ?_
            refine JL_pd rfl (det_pick_t rfl rfl rfl) ?_
            exact hj (by kernel_rfl) (stsub_consB rfl (by clear hj; first | rfl | (simp only [q7, Bool.and_true, Bool.true_and, Bool.false_and, Bool.and_false, Bool.or_true, Bool.true_or, Bool.or_false, Bool.false_or, Bool.not_true, Bool.not_false]; done) | (simp [q7]; done) | (simp at q7; done) | (simp [q7] <;> omega) | (exfalso; simp at q7; omega)) stsub_nil)
          · refine JL_guard rfl rfl q7 ?_
            refine JL_pd rfl (det_move rfl) ?_
            refine JL_guard rfl rfl q7 ?_
            refine JL_pd rfl (det_gtr rfl rfl) ?_
            refine JL_pd rfl (det_pick_f rfl q7 rfl) ?_
            refine JL_pd rfl (det_move rfl) ?_
            refine JL_split (d0 := 95) rfl (fun q8 => ?_) (fun q8 => ?_)
            · refine JL_skip rfl rfl q8 rfl ?_
              refine JL_skip rfl rfl q8 rfl ?_
              refine JL_skip rfl rfl q8 rfl ?_
              refine JL_skip rfl rfl q8 rfl ?_
              refine JL_skip rfl rfl q8 rfl ?_
              refine JL_skip rfl rfl q8 rfl ?_
              refine JL_skip rfl rfl q8 rfl ?_
              refine JL_pd rfl (det_pick_t rfl q8 rfl) ?_
              exact hj (by kernel_rfl) (stsub_consB rfl (by clear hj; first | rfl | (simp only [q7, q8, Bool.and_true, Bool.true_and, Bool.false_and, Bool.and_false, Bool.or_true, Bool.true_or, Bool.or_false, Bool.false_or, Bool.not_true, Bool.not_false]; done) | (simp [q7, q8]; done) | (simp at q7; done) | (simp at q8; done) | (simp [q7, q8] <;> omega) | (exfalso; simp at q7 q8; omega) | (simp [q8] at q7; done) | (simp [q7] at q8; done)) stsub_nil)
            · refine JL_guard rfl rfl q8 ?_
              refine JL_pd rfl (det_move rfl) ?_
              refine JL_guard rfl rfl q8 ?_
              refine JL_pd rfl (det_move rfl) ?_
              refine JL_guard rfl rfl q8 ?_
              refine JL_dt rfl (det_indexAddr rfl rfl (by first | rfl | omega) (by first | assumption | omega | decide) Tryz.runUnderlying80 Tryz.sizeOf92) ?_
              refine JL_guard rfl rfl q8 ?_
              refine JL_pd rfl (det_fieldAddrE rfl fo_92_2) ?_
              refine JL_guard rfl rfl q8 ?_
              refine JL_dt rfl (det_loadEk rfl (by first | assumption | omega | decide) Tryz.isAgg31 rfl rfl) ?_
              refine JL_guard rfl rfl q8 ?_
              refine JL_pd rfl (det_len rfl Tryz.runUnderlying31) ?_
              refine JL_guard rfl rfl q8 ?_
              refine JL_pd rfl (det_eql rfl rfl) ?_
              refine JL_pd rfl (det_pick_f rfl q8 rfl) ?_
              exact hj (by kernel_rfl) (stsub_consB rfl (by clear hj; first | rfl | (simp only [q7, q8, Bool.and_true, Bool.true_and, Bool.false_and, Bool.and_false, Bool.or_true, Bool.true_or, Bool.or_false, Bool.false_or, Bool.not_true, Bool.not_false]; done) | (simp [q7, q8]; done) | (simp at q7; done) | (simp at q8; done) | (simp [q7, q8] <;> omega) | (exfalso; simp at q7 q8; omega) | (simp [q8] at q7; done) | (simp [q7] at q8; done)) stsub_nil)
        refine JL_nil ?_
        refine JE_seq ?_
        -- stop: cond
        refine JC_cond rfl (fun h3 => ?_) (fun h3 => ?_)
        · refine JC_exit ?_
          refine JE_seq_exit ?_
          refine JE_block_here ?_
          refine JE_seq ?_
          refine JC_region ?_
          refine JL_pd rfl (det_move rfl) ?_
          refine JL_pd rfl (det_add rfl rfl ⟨by omega, by omega⟩) ?_
          refine JL_pd rfl (det_assign rfl) ?_
          refine JL_nil ?_
          -- stop: end
          refine JE_roundF hK (i + 1) (by omega) (by omega) (stsub_consI rfl (by omega) stsub_nil) ht_nil
        · simp only [Bool.or_eq_false_iff, decide_eq_false_iff_not] at h3
          obtain ⟨h4, h5, h6⟩ := h3
          have hft9 : xs[i].g.feet.length ≤ 6 := hfw
          refine JC_know (R' := KAnd (KSl xs[i].a xs[i].g.feet.length xs[i].c En.encI xs[i].g.feet) _) (fun w h => ⟨(Knows.know (F := En.KFt xs) w h) _ (List.getElem_mem hi2), h⟩) ?_
          refine JC_nil 3 1 ?_
          have hsh : En.shodE x.h xs[i].g.feet = 0 := by
            unfold En.shodE
            rw [if_neg (by rw [En.hsOk_iff.2 V.hs]; decide), if_neg (by omega), if_neg (by rw [List.all_eq_true.2 fun f hf => En.inI_iff.2 (hVg.ft f hf)]; decide)]
          refine JC_skip ?_
          refine JE_seq ?_
          refine JC_seq ?_
          refine JC_draw [7] (by kernel_rfl) ?_
          refine JA_dt (i := 0) rfl (by kernel_rfl) (by kernel_rfl) rfl rfl (det_loadKA rfl Tryz.isAgg79 Tryz.sizeOf79 rfl rfl) ?_
          refine JA_pd (i := 2) rfl (by kernel_rfl) rfl rfl (det_move rfl) ?_
          refine JA_pd (i := 3) rfl (by kernel_rfl) rfl rfl (det_move rfl) ?_
          refine JA_dt (i := 4) rfl (by kernel_rfl) (by kernel_rfl) rfl rfl (det_indexAddr rfl rfl (by first | rfl | omega) (by first | assumption | omega | decide) Tryz.runUnderlying80 Tryz.sizeOf92) ?_
          refine JA_pd (i := 5) rfl (by kernel_rfl) rfl rfl (det_fieldAddrE rfl fo_92_2) ?_
          refine JA_dt (i := 6) rfl (by kernel_rfl) (by kernel_rfl) rfl rfl (det_loadEk rfl (by first | assumption | omega | decide) Tryz.isAgg31 rfl rfl) ?_
          refine JA_one (i := 1) (by kernel_rfl) rfl rfl (jo_call rfl rfl Tryz.call32 rfl (hHj)) (fun _ => ⟨hsub_drop 0 rfl, fun _ h => h.2⟩) fun x106 => ?_
          refine JA_tail (i := 7) (by kernel_rfl) rfl rfl rfl rfl (jo_appendK (e := En.encI) el_31 rfl rfl En.encI_one (by omega)) fun b112 => ?_
          -- stop: op  8 t113 := (call (Call (value f34) (t106 t112) (86 31)))   <1 7 7>   39
          refine JT_slice (enc := En.encI) (v := b112) xs[i].g.feet noFp (by simp) (by simp) ?_
          rintro fa fc rfl
          simp only [Nat.zero_add]
          have hFit := En.Fit_jo ⟨x.h, x106.1, x106.2⟩ fa fc xs[i].g.feet hsh
          refine JT_one (i := 8) (by kernel_rfl) rfl rfl (jo_call rfl rfl Tryz.call34 rfl (hFit)) fun xw => ?_
          refine JT_pd (i := 9) rfl (by kernel_rfl) rfl rfl (det_move rfl) ?_
          refine JT_pd (i := 10) rfl (by kernel_rfl) rfl rfl (det_extract rfl rfl) ?_
          refine JT_pd (i := 11) rfl (by kernel_rfl) rfl rfl (det_extract rfl rfl) ?_
          refine JT_pd (i := 12) rfl (by kernel_rfl) rfl rfl (det_assign rfl) ?_
          refine JT_pd (i := 13) rfl (by kernel_rfl) rfl rfl (det_assign rfl) ?_
          refine JT_done (by kernel_rfl) ?_
          refine JE_seq ?_
          refine JC_seq ?_
          refine JC_seq ?_
          refine JC_region ?_
          refine JL_pd rfl (det_move rfl) ?_
          refine JL_pd rfl (det_neq rfl rfl) ?_
          refine JL_pd rfl (det_move rfl) ?_
          -- stop: guard 2
          obtain ⟨wb, ws, hw⟩ := xw
          have hwl : ws.length = xs[i].g.feet.length := hw.1
          simp only
          have hsv : En.served ws ≤ 6 := by
            have : En.served ws ≤ ws.length := List.countP_le_length
            omega
          have hSv := En.Served_j (some ⟨wb, 0, none⟩) xs[i].g.feet.length ws (by omega)
          rw [hwl] at hSv
          obtain ⟨sv, hsvE⟩ : ∃ sv, sv = En.served ws := ⟨_, rfl⟩
          rw [← hsvE] at hSv hsv
          have ht0 : 0 ≤ hr.tmod 24 ∧ hr.tmod 24 ≤ 23 := by rw [Int.tmod_eq_emod_of_nonneg hh.1]; omega
          have hA1 : askE l ⟨0, 4 * (xs[i].g.hi - xs[i].g.fr + 1), (sv : Int)⟩ (hr.tmod 24) = 0 := ask_ok hT0 ⟨(by first | omega | (dsimp only; omega)), (by first | omega | (dsimp only; omega)), (by first | omega | (dsimp only; omega)), (by first | omega | (dsimp only; omega)), (by first | omega | (dsimp only; omega)), (by first | omega | (dsimp only; omega))⟩ ht0.1 ht0.2
          have hA2 : askE l ⟨0, 4 * (xs[i].g.lo - xs[i].g.fr + 1), (sv : Int)⟩ (hr.tmod 24) = 0 := ask_ok hT0 ⟨(by first | omega | (dsimp only; omega)), (by first | omega | (dsimp only; omega)), (by first | omega | (dsimp only; omega)), (by first | omega | (dsimp only; omega)), (by first | omega | (dsimp only; omega)), (by first | omega | (dsimp only; omega))⟩ ht0.1 ht0.2
          refine JL_join1 10 128 (.bool false) (fun hj => ?_) ?_
          · refine JL_split (d0 := 118) rfl (fun q9 => ?_) (fun q9 => ?_)
            · refine JL_skip rfl rfl q9 rfl ?_
              refine JL_skip rfl rfl q9 rfl ?_
              refine JL_skip rfl rfl q9 rfl ?_
              refine JL_skip rfl rfl q9 rfl ?_
              refine JL_skip rfl rfl q9 rfl ?_
              refine JL_skip rfl rfl q9 rfl ?_
              refine JL_skip rfl rfl q9 rfl ?_
              refine JL_skip rfl rfl q9 rfl ?_
              refine JL_skip rfl rfl q9 rfl ?_
              refine JL_pd rfl (det_pick_t rfl q9 rfl) ?_
              exact hj (by kernel_rfl) (stsub_consB rfl (by clear hj; first | rfl | (simp only [q9, Bool.and_true, Bool.true_and, Bool.false_and, Bool.and_false, Bool.or_true, Bool.true_or, Bool.or_false, Bool.false_or, Bool.not_true, Bool.not_false]; done) | (simp [q9]; done) | (simp at q9; done) | (simp [q9] <;> omega) | (exfalso; simp at q9; omega)) stsub_nil)
            · refine JL_guard rfl rfl q9 ?_
              refine JL_pd rfl (det_move rfl) ?_
              refine JL_guard rfl rfl q9 ?_
              refine JL_pd rfl (det_len rfl Tryz.runUnderlying31) ?_
              refine JL_guard rfl rfl q9 ?_
              refine JL_pd rfl (det_move rfl) ?_
              refine JL_guard rfl rfl q9 ?_
              refine JL_pd rfl (det_move rfl) ?_
              refine JL_guard rfl rfl q9 ?_
              refine JL_dt rfl (det_indexAddr rfl rfl (by first | rfl | omega) (by first | assumption | omega | decide) Tryz.runUnderlying80 Tryz.sizeOf92) ?_
              refine JL_guard rfl rfl q9 ?_
              refine JL_pd rfl (det_fieldAddrE rfl fo_92_2) ?_
              refine JL_guard rfl rfl q9 ?_
              refine JL_dt rfl (det_loadEk rfl (by first | assumption | omega | decide) Tryz.isAgg31 rfl rfl) ?_
              refine JL_guard rfl rfl q9 ?_
              refine JL_pd rfl (det_len rfl Tryz.runUnderlying31) ?_
              refine JL_guard rfl rfl q9 ?_
              refine JL_pd rfl (det_neq rfl rfl) ?_
              refine JL_pd rfl (det_pick_f rfl q9 rfl) ?_
              exact hj (by kernel_rfl) (stsub_consB rfl (by clear hj; first | rfl | (simp only [q9, Bool.and_true, Bool.true_and, Bool.false_and, Bool.and_false, Bool.or_true, Bool.true_or, Bool.or_false, Bool.false_or, Bool.not_true, Bool.not_false]; done) | (simp [q9]; done) | (simp at q9; done) | (simp [q9] <;> omega) | (exfalso; simp at q9; omega)) stsub_nil)
          refine JL_nil ?_
          refine JE_seq ?_
          refine JC_condF rfl rfl ?_
          refine JC_skip ?_
          refine JE_seq ?_
          refine JC_seq ?_
          refine JC_region ?_
          refine JL_pd rfl (det_move rfl) ?_
          refine JL_pd rfl (det_mul rfl rfl ⟨by omega, by omega⟩) ?_
          refine JL_pd rfl (det_move rfl) ?_
          refine JL_step rfl rfl rfl (jo_callv rfl rfl Tryz.call35 rfl (hSv)) fun _ => ?_
          refine JL_pd rfl (det_build rfl (bld_96_1_2 _ _)) ?_
          refine JL_step rfl rfl rfl (jo_alloc0 Tryz.zeroValue96 rfl) fun b15 => ?_
          refine JL_step0 rfl rfl (jo_store rfl rfl rfl (by first | (simp only [splice_norm]; done) | (simp only [splice_norm]; rfl) | rfl) Tryz.sizeOf96 rfl rfl) fun _ => ?_
          refine JL_nil ?_
          refine JE_seq ?_
          refine JC_seq ?_
          refine JC_region ?_
          refine JL_dt rfl (det_loadKA rfl Tryz.isAgg96 Tryz.sizeOf96 rfl rfl) ?_
          refine JL_step rfl rfl rfl (jo_alloc0 Tryz.zeroValue96 rfl) fun b16 => ?_
          refine JL_step0 rfl rfl (jo_store rfl rfl rfl (by first | (simp only [splice_norm]; done) | (simp only [splice_norm]; rfl) | rfl) Tryz.sizeOf96 rfl rfl) fun _ => ?_
          refine JL_nil ?_
          refine JE_seq ?_
          refine JC_seq ?_
          refine JC_draw [15] (by kernel_rfl) ?_
          refine JA_pd (i := 0) rfl (by kernel_rfl) rfl rfl (det_move rfl) ?_
          refine JA_pd (i := 1) rfl (by kernel_rfl) rfl rfl (det_move rfl) ?_
          refine JA_dt (i := 2) rfl (by kernel_rfl) (by kernel_rfl) rfl rfl (det_indexAddr rfl rfl (by first | rfl | omega) (by first | assumption | omega | decide) Tryz.runUnderlying80 Tryz.sizeOf92) ?_
          refine JA_pd (i := 3) rfl (by kernel_rfl) rfl rfl (det_fieldAddrE rfl fo_92_1) ?_
          refine JA_pd (i := 4) rfl (by kernel_rfl) rfl rfl (det_fieldAddrEk (k2 := 1) rfl fo_90_0 rfl) ?_
          refine JA_dt (i := 5) rfl (by kernel_rfl) (by kernel_rfl) rfl rfl (det_loadEk rfl (by first | assumption | omega | decide) Tryz.isAgg3 rfl rfl) ?_
          refine JA_pd (i := 6) rfl (by kernel_rfl) rfl rfl (det_move rfl) ?_
          refine JA_pd (i := 7) rfl (by kernel_rfl) rfl rfl (det_move rfl) ?_
          refine JA_dt (i := 8) rfl (by kernel_rfl) (by kernel_rfl) rfl rfl (det_indexAddr rfl rfl (by first | rfl | omega) (by first | assumption | omega | decide) Tryz.runUnderlying80 Tryz.sizeOf92) ?_
          refine JA_pd (i := 9) rfl (by kernel_rfl) rfl rfl (det_fieldAddrE rfl fo_92_0) ?_
          refine JA_dt (i := 10) rfl (by kernel_rfl) (by kernel_rfl) rfl rfl (det_loadEk rfl (by first | assumption | omega | decide) Tryz.isAgg3 rfl rfl) ?_
          refine JA_pd (i := 11) rfl (by kernel_rfl) rfl rfl (det_sub rfl rfl ⟨by omega, by omega⟩) ?_
          refine JA_pd (i := 12) rfl (by kernel_rfl) rfl rfl (det_add rfl rfl ⟨by omega, by omega⟩) ?_
          refine JA_pd (i := 13) rfl (by kernel_rfl) rfl rfl (det_mul rfl rfl ⟨by omega, by omega⟩) ?_
          refine JA_pd (i := 14) rfl (by kernel_rfl) rfl rfl (det_fieldAddr rfl fo_96_1) ?_
          refine JA_tail (i := 15) (by kernel_rfl) rfl rfl rfl rfl (jo_store rfl rfl rfl (by first | (simp only [splice_norm]; done) | (simp only [splice_norm]; rfl) | rfl) Tryz.sizeOf3 rfl rfl) fun _ => ?_
          refine JT_done (by kernel_rfl) ?_
          refine JE_seq ?_
          refine JC_seq ?_
          refine JC_draw [] (by kernel_rfl) ?_
          refine JA_pd (i := 0) rfl (by kernel_rfl) rfl rfl (det_move rfl) ?_
          refine JA_dt (i := 2) rfl (by kernel_rfl) (by kernel_rfl) rfl rfl (det_loadKA rfl Tryz.isAgg96 Tryz.sizeOf96 rfl rfl) ?_
          refine JA_pd (i := 4) rfl (by kernel_rfl) rfl rfl (det_move rfl) ?_
          refine JA_pd (i := 5) rfl (by kernel_rfl) rfl rfl (det_convI rfl Tryz.runUnderlying5 Tryz.runUnderlying3 (i64_wrap ⟨by omega, by omega⟩)) ?_
          refine JA_pd (i := 6) rfl (by kernel_rfl) rfl rfl (det_rem rfl rfl (by omega)) ?_
          refine JA_one (i := 1) (by kernel_rfl) rfl rfl (jo_call rfl rfl Tryz.call37 rfl (lOffers_j oa oc l (by omega))) (fun _ => ⟨hsub_drop 0 rfl, fun _ h => h.2⟩) fun x152 => ?_
          refine JA_one (i := 3) (by kernel_rfl) rfl rfl (jo_callv rfl rfl Tryz.call38 rfl (lAm_j ⟨0, 4 * (xs[i].g.hi - xs[i].g.fr + 1), (sv : Int)⟩)) (fun _ => ⟨hsub_refl, fun _ h => h⟩) fun _ => ?_
          -- stop: op  7 t158 := (call (Call (value f36) (t152 t154 t157) (99 101 3)))   <1 3 6 3>   46
          refine JA_one (i := 7) (by kernel_rfl) rfl rfl (jo_call rfl rfl Tryz.call36 rfl (Best_u x152.1 x152.2 l ⟨0, 4 * (xs[i].g.hi - xs[i].g.fr + 1), (sv : Int)⟩ (hr.tmod 24))) (fun _ => ⟨hsub_drop 0 rfl, fun _ h => h.2⟩) fun xb => ?_
          refine JA_pd (i := 8) rfl (by kernel_rfl) rfl rfl (det_move rfl) ?_
          refine JA_pd (i := 9) rfl (by kernel_rfl) rfl rfl (det_extract rfl rfl) ?_
          refine JA_pd (i := 10) rfl (by kernel_rfl) rfl rfl (det_extract rfl rfl) ?_
          refine JA_pd (i := 11) rfl (by kernel_rfl) rfl rfl (det_extract rfl rfl) ?_
          refine JA_pd (i := 12) rfl (by kernel_rfl) rfl rfl (det_assign rfl) ?_
          refine JA_pd (i := 13) rfl (by kernel_rfl) rfl rfl (det_assign rfl) ?_
          refine JA_pd (i := 14) rfl (by kernel_rfl) rfl rfl (det_assign rfl) ?_
          refine JA_done (by kernel_rfl) ?_
          refine JE_seq ?_
          refine JC_seq ?_
          refine JC_draw [] (by kernel_rfl) ?_
          refine JA_pd (i := 0) rfl (by kernel_rfl) rfl rfl (det_move rfl) ?_
          refine JA_dt (i := 2) rfl (by kernel_rfl) (by kernel_rfl) rfl rfl (det_loadKA rfl Tryz.isAgg96 Tryz.sizeOf96 rfl rfl) ?_
          refine JA_pd (i := 4) rfl (by kernel_rfl) rfl rfl (det_move rfl) ?_
          refine JA_pd (i := 5) rfl (by kernel_rfl) rfl rfl (det_convI rfl Tryz.runUnderlying5 Tryz.runUnderlying3 (i64_wrap ⟨by omega, by omega⟩)) ?_
          refine JA_pd (i := 6) rfl (by kernel_rfl) rfl rfl (det_rem rfl rfl (by omega)) ?_
          refine JA_one (i := 1) (by kernel_rfl) rfl rfl (jo_call rfl rfl Tryz.call37 rfl (lOffers_j oa oc l (by omega))) (fun _ => ⟨hsub_drop 0 rfl, fun _ h => h.2⟩) fun x164 => ?_
          refine JA_one (i := 3) (by kernel_rfl) rfl rfl (jo_callv rfl rfl Tryz.call38 rfl (lAm_j ⟨0, 4 * (xs[i].g.lo - xs[i].g.fr + 1), (sv : Int)⟩)) (fun _ => ⟨hsub_refl, fun _ h => h⟩) fun _ => ?_
          -- stop: op  7 t170 := (call (Call (value f36) (t164 t166 t169) (99 101 3)))   <1 3 6 3>   47
          obtain ⟨hb1, hb2, hb3⟩ := bb hA1
          have hn1 := am12_of (ask_of hA1).2.1
          have hn2 := am12_of (ask_of hA2).2.1
          have hbl := bb_le hA1 hA2 (fun b hb => less_le hVo hn1 hn2 (leA_iff.2 ⟨Int.le_refl _, by dsimp only; omega, Int.le_refl _⟩) hb)
          refine JA_one (i := 7) (by kernel_rfl) rfl rfl (jo_call rfl rfl Tryz.call36 rfl (Best_u x164.1 x164.2 l ⟨0, 4 * (xs[i].g.lo - xs[i].g.fr + 1), (sv : Int)⟩ (hr.tmod 24))) (fun _ => ⟨hsub_drop 0 rfl, fun _ h => h.2⟩) fun xc => ?_
          refine JA_pd (i := 8) rfl (by kernel_rfl) rfl rfl (det_move rfl) ?_
          refine JA_pd (i := 9) rfl (by kernel_rfl) rfl rfl (det_extract rfl rfl) ?_
          refine JA_pd (i := 10) rfl (by kernel_rfl) rfl rfl (det_extract rfl rfl) ?_
          refine JA_pd (i := 11) rfl (by kernel_rfl) rfl rfl (det_extract rfl rfl) ?_
          refine JA_pd (i := 12) rfl (by kernel_rfl) rfl rfl (det_assign rfl) ?_
          refine JA_pd (i := 13) rfl (by kernel_rfl) rfl rfl (det_assign rfl) ?_
          refine JA_pd (i := 14) rfl (by kernel_rfl) rfl rfl (det_assign rfl) ?_
          refine JA_done (by kernel_rfl) ?_
          refine JE_seq ?_
          refine JC_seq ?_
          refine JC_seq ?_
          refine JC_region ?_
          refine JL_pd rfl (det_move rfl) ?_
          refine JL_pd rfl (det_neq rfl rfl) ?_
          refine JL_nil ?_
          refine JE_seq ?_
          -- stop: cond
          refine JC_ifn rfl (fun h7 => ?_) (fun h7 => ?_)
          · refine JC_seq ?_
            refine JC_seq ?_
            refine JC_region ?_
            refine JL_pd rfl (det_move rfl) ?_
            refine JL_pd rfl (det_neq rfl rfl) ?_
            refine JL_nil ?_
            refine JE_seq ?_
            -- stop: cond
            refine JC_ifn rfl (fun h8 => ?_) (fun h8 => ?_)
            · exact absurd h8 (by omega)
            refine JC_skip ?_
            refine JE_seq ?_
            refine JC_exit ?_
            refine JE_seq_exit ?_
            refine JE_block_here ?_
            refine JE_seq ?_
            refine JC_region ?_
            refine JL_pd rfl (det_move rfl) ?_
            refine JL_pd rfl (det_add rfl rfl ⟨by omega, by omega⟩) ?_
            refine JL_pd rfl (det_assign rfl) ?_
            refine JL_nil ?_
            -- stop: end
            refine JE_roundF hK (i + 1) (by omega) (by omega) (stsub_consI rfl (by omega) stsub_nil) ht_nil
          · have hb7 := h7
            obtain ⟨hc1, hc2⟩ := hbl hb7
            refine JC_skip ?_
            refine JE_seq ?_
            refine JC_seq ?_
            refine JC_region ?_
            refine JL_pd rfl (det_assign rfl) ?_
            refine JL_nil ?_
            refine JE_seq ?_
            refine JC_seq ?_
            refine JC_seq ?_
            refine JC_region ?_
            refine JL_pd rfl (det_assign rfl) ?_
            refine JL_nil ?_
            refine JE_seq ?_
            refine JC_block ?_
            -- stop: loop
            rw [hc1]
            generalize bCost (bR l ⟨0, 4 * (xs[i].g.hi - xs[i].g.fr + 1), (sv : Int)⟩ (hr.tmod 24)) = cst at hb2 hb3 hc2 ⊢
            generalize bCost (bR l ⟨0, 4 * (xs[i].g.lo - xs[i].g.fr + 1), (sv : Int)⟩ (hr.tmod 24)) = dst at hc2 ⊢
            obtain ⟨fl, hfl⟩ : ∃ fl, fl = xs[i].g.feet.length := ⟨_, rfl⟩
            refine JC_nil 3 1 ?_
            refine JC_loopF (γ := Nat × Value) (fun q => q.1 ≤ xs[i].g.feet.length) (fun q => [(24, I q.1), (23, q.2)]) (fun q => [ow q.2 3 1 q.1 ((onesL q.1).flatMap encI)]) (fun q => xs[i].g.feet.length - q.1) (0, .slice none 0 0) (Nat.zero_le _) (stsub_consI rfl rfl (stsub_cons rfl stsub_nil)) (ht_ow rfl rfl ht_nil) ?_
            rintro ⟨n, v⟩ hn K1 hK1
            dsimp only [List.cons_append, List.nil_append] at hn ⊢
            refine JC_seq ?_
            refine JC_seq ?_
            refine JC_region ?_
            refine JL_pd rfl (det_move rfl) ?_
            refine JL_pd rfl (det_move rfl) ?_
            refine JL_pd rfl (det_len rfl Tryz.runUnderlying31) ?_
            refine JL_pd rfl (det_lss rfl rfl) ?_
            refine JL_nil ?_
            refine JE_seq ?_
            -- stop: cond
            refine JC_if rfl (fun h9 => ?_) (fun h9 => ?_)
            · refine JC_skip ?_
              refine JE_seq ?_
              refine JC_seq ?_
              refine JC_block ?_
              refine JC_region ?_
              refine JL_pd rfl (det_move rfl) ?_
              refine JL_step rfl rfl rfl (jo_buildSlice rfl (bsl_31_1_0 _)) fun b185 => ?_
              refine JL_step rfl rfl rfl (jo_append el_31 rfl rfl rfl rfl (by omega)) fun b186 => ?_
              refine JL_pd rfl (det_assign rfl) ?_
              refine JL_nil ?_
              refine JE_block ?_
              refine JE_seq ?_
              refine JC_region ?_
              refine JL_pd rfl (det_move rfl) ?_
              refine JL_pd rfl (det_add rfl rfl ⟨by omega, by omega⟩) ?_
              refine JL_pd rfl (det_assign rfl) ?_
              refine JL_nil ?_
              -- stop: end
              refine JE_roundF hK1 (n + 1, .slice (some ⟨b186.1, 0, none⟩) (n + 1) b186.2) (by simp only; omega) (by simp only; omega) (stsub_consI rfl (by simp only; omega) (stsub_cons rfl stsub_nil)) (ht_ow rfl (by rw [ones_snoc, List.flatMap_append]; rfl) ht_nil)
            · obtain rfl : n = xs[i].g.feet.length := by omega
              refine JC_slice (enc := encI) (v := v) (onesL xs[i].g.feet.length) noFp rfl (ones_len _).symm ?_
              rintro va vc rfl
              have hso := ones_ok (c := cst) (n := xs[i].g.feet.length) ⟨hb2, by omega⟩ ⟨by omega, by omega⟩
              obtain ⟨VS, hW⟩ := share_of hso
              have hSl : (sharesV cst (onesL xs[i].g.feet.length)).length = xs[i].g.feet.length := by rw [sharesV_len, ones_len]
              have hSh := Share_jv cst va vc (onesL xs[i].g.feet.length) hso
              rw [ones_len] at hSh
              refine JC_exit ?_
              refine JE_seq_exit ?_
              refine JE_then_exit ?_
              refine JE_block_here ?_
              refine JE_seq ?_
              refine JC_seq ?_
              refine JC_region ?_
              refine JL_pd rfl (det_move rfl) ?_
              refine JL_pd rfl (det_move rfl) ?_
              -- stop: op  2 t190 := (call (Call (value f39) (t188 t189) (3 31)))   <0 1>   58
              refine JL_step rfl rfl rfl (jo_call rfl rfl Tryz.call39 rfl (hSh)) fun xz => ?_
              refine JL_pd rfl (det_move rfl) ?_
              refine JL_pd rfl (det_extract rfl rfl) ?_
              refine JL_pd rfl (det_extract rfl rfl) ?_
              refine JL_pd rfl (det_assign rfl) ?_
              refine JL_pd rfl (det_assign rfl) ?_
              refine JL_nil ?_
              refine JE_seq ?_
              refine JC_seq ?_
              refine JC_seq ?_
              refine JC_region ?_
              refine JL_pd rfl (det_move rfl) ?_
              refine JL_pd rfl (det_neq rfl rfl) ?_
              refine JL_pd rfl (det_move rfl) ?_
              -- stop: guard 2
              refine JL_join1 15 210 (.bool false) (fun hj => ?_) ?_
              · refine JL_split (d0 := 195) rfl (fun q10 => ?_) (fun q10 => ?_)
                · refine JL_skip rfl rfl q10 rfl ?_
                  refine JL_skip rfl rfl q10 rfl ?_
                  refine JL_skip rfl rfl q10 rfl ?_
                  refine JL_pd rfl (det_pick_t rfl q10 rfl) ?_
                  refine JL_pd rfl (det_move rfl) ?_
                  refine JL_skip rfl rfl rfl rfl ?_
                  refine JL_skip rfl rfl rfl rfl ?_
                  refine JL_pd rfl (det_pick_t rfl rfl rfl) ?_
                  refine JL_pd rfl (det_move rfl) ?_
                  refine JL_skip rfl rfl rfl rfl ?_
                  refine JL_skip rfl rfl rfl rfl ?_
                  refine JL_skip rfl rfl rfl rfl ?_
                  refine JL_skip rfl rfl rfl rfl ?_
                  refine JL_skip rfl rfl rfl rfl ?_
                  refine JL_pd rfl (det_pick_t rfl rfl rfl) ?_
                  exact hj (by kernel_rfl) (stsub_consB rfl (by clear hj; first | rfl | (simp only [hSl, q10, Bool.and_true, Bool.true_and, Bool.false_and, Bool.and_false, Bool.or_true, Bool.true_or, Bool.or_false, Bool.false_or, Bool.not_true, Bool.not_false]; done) | (simp [hSl, q10]; done) | (simp [hSl] at q10; done) | (simp [hSl, q10] <;> omega) | (exfalso; simp [hSl] at q10; omega) | (simp [q10] at hSl; done) | (simp [q10] at hSl; simp [q10, hSl]; done)) stsub_nil)
                · refine JL_guard rfl rfl q10 ?_
                  refine JL_pd rfl (det_move rfl) ?_
                  refine JL_guard rfl rfl q10 ?_
                  refine JL_pd rfl (det_move rfl) ?_
                  refine JL_guard rfl rfl q10 ?_
                  refine JL_pd rfl (det_gtr rfl rfl) ?_
                  refine JL_pd rfl (det_pick_f rfl q10 rfl) ?_
                  refine JL_pd rfl (det_move rfl) ?_
                  refine JL_split (d0 := 200) rfl (fun q11 => ?_) (fun q11 => ?_)
                  · refine JL_skip rfl rfl q11 rfl ?_
                    refine JL_skip rfl rfl q11 rfl ?_
                    refine JL_pd rfl (det_pick_t rfl q11 rfl) ?_
                    refine JL_pd rfl (det_move rfl) ?_
                    refine JL_skip rfl rfl rfl rfl ?_
                    refine JL_skip rfl rfl rfl rfl ?_
                    refine JL_skip rfl rfl rfl rfl ?_
                    refine JL_skip rfl rfl rfl rfl ?_
                    refine JL_skip rfl rfl rfl rfl ?_
                    refine JL_pd rfl (det_pick_t rfl rfl rfl) ?_
                    exact hj (by kernel_rfl) (stsub_consB rfl (by clear hj; first | rfl | (simp only [hSl, q10, q11, Bool.and_true, Bool.true_and, Bool.false_and, Bool.and_false, Bool.or_true, Bool.true_or, Bool.or_false, Bool.false_or, Bool.not_true, Bool.not_false]; done) | (simp [hSl, q10, q11]; done) | (simp [hSl] at q10; done) | (simp [hSl] at q11; done) | (simp [hSl, q10, q11] <;> omega) | (exfalso; simp [hSl] at q10 q11; omega) | (simp [q10, q11] at hSl; done) | (simp [q11, hSl] at q10; done) | (simp [q10, hSl] at q11; done) | (simp [q10, q11] at hSl; simp [q10, q11, hSl]; done)) stsub_nil)
                  · refine JL_guard rfl rfl q11 ?_
                    refine JL_pd rfl (det_move rfl) ?_
                    refine JL_guard rfl rfl q11 ?_
                    refine JL_pd rfl (det_neq rfl rfl) ?_
                    refine JL_pd rfl (det_pick_f rfl q11 rfl) ?_
                    refine JL_pd rfl (det_move rfl) ?_
                    refine JL_split (d0 := 204) rfl (fun q12 => ?_) (fun q12 => ?_)
                    · refine JL_skip rfl rfl q12 rfl ?_
                      refine JL_skip rfl rfl q12 rfl ?_
                      refine JL_skip rfl rfl q12 rfl ?_
                      refine JL_skip rfl rfl q12 rfl ?_
                      refine JL_skip rfl rfl q12 rfl ?_
                      refine JL_pd rfl (det_pick_t rfl q12 rfl) ?_
                      exact hj (by kernel_rfl) (stsub_consB rfl (by clear hj; first | rfl | (simp only [hSl, q10, q11, q12, Bool.and_true, Bool.true_and, Bool.false_and, Bool.and_false, Bool.or_true, Bool.true_or, Bool.or_false, Bool.false_or, Bool.not_true, Bool.not_false]; done) | (simp [hSl, q10, q11, q12]; done) | (simp [hSl] at q10; done) | (simp [hSl] at q11; done) | (simp [hSl] at q12; done) | (simp [hSl, q10, q11, q12] <;> omega) | (exfalso; simp [hSl] at q10 q11 q12; omega) | (simp [q10, q11, q12] at hSl; done) | (simp [q11, q12, hSl] at q10; done) | (simp [q10, q12, hSl] at q11; done) | (simp [q10, q11, hSl] at q12; done) | (simp [q10, q11, q12] at hSl; simp [q10, q11, q12, hSl]; done)) stsub_nil)
                    · refine JL_guard rfl rfl q12 ?_
                      refine JL_pd rfl (det_move rfl) ?_
                      refine JL_guard rfl rfl q12 ?_
                      refine JL_pd rfl (det_len rfl Tryz.runUnderlying31) ?_
                      refine JL_guard rfl rfl q12 ?_
                      refine JL_pd rfl (det_move rfl) ?_
                      refine JL_guard rfl rfl q12 ?_
                      refine JL_pd rfl (det_len rfl Tryz.runUnderlying31) ?_
                      refine JL_guard rfl rfl q12 ?_
                      refine JL_pd rfl (det_neq rfl rfl) ?_
                      refine JL_pd rfl (det_pick_f rfl q12 rfl) ?_
                      exact hj (by kernel_rfl) (stsub_consB rfl (by clear hj; first | rfl | (simp only [hSl, q10, q11, q12, Bool.and_true, Bool.true_and, Bool.false_and, Bool.and_false, Bool.or_true, Bool.true_or, Bool.or_false, Bool.false_or, Bool.not_true, Bool.not_false]; done) | (simp [hSl, q10, q11, q12]; done) | (simp [hSl] at q10; done) | (simp [hSl] at q11; done) | (simp [hSl] at q12; done) | (simp [hSl, q10, q11, q12] <;> omega) | (exfalso; simp [hSl] at q10 q11 q12; omega) | (simp [q10, q11, q12] at hSl; done) | (simp [q11, q12, hSl] at q10; done) | (simp [q10, q12, hSl] at q11; done) | (simp [q10, q11, hSl] at q12; done) | (simp [q10, q11, q12] at hSl; simp [q10, q11, q12, hSl]; done)) stsub_nil)
              refine JL_nil ?_
              refine JE_seq ?_
              refine JC_condF rfl rfl ?_
              refine JC_skip ?_
              refine JE_seq ?_
              refine JC_seq ?_
              refine JC_region ?_
              refine JL_pd rfl (det_assign rfl) ?_
              refine JL_nil ?_
              refine JE_seq ?_
              refine JC_seq ?_
              refine JC_seq ?_
              refine JC_region ?_
              refine JL_pd rfl (det_assign rfl) ?_
              refine JL_nil ?_
              refine JE_seq ?_
              refine JC_block ?_
              -- stop: loop
              have hW1 : (onesL xs[i].g.feet.length).length = xs[i].g.feet.length := ones_len _
              have hev := fun k (hk : k < xs[i].g.feet.length) => even_share (c := cst) (n := xs[i].g.feet.length) ⟨hb2, by omega⟩ ⟨by omega, by omega⟩ k hk
              have hsg := fun k (h : k < (sharesV cst (onesL xs[i].g.feet.length)).length) => sharesV_get (sum := cst) (ws := onesL xs[i].g.feet.length) h
              have hpb := fun k : Nat => paid_bd VS hW k
              refine JC_loopF (γ := Nat) (fun k => k ≤ (sharesV cst (onesL xs[i].g.feet.length)).length) (fun k => [(28, I k), (27, I (paidV cst (onesL xs[i].g.feet.length) k))]) (fun _ => []) (fun k => (sharesV cst (onesL xs[i].g.feet.length)).length - k) 0 (Nat.zero_le _) (stsub_consI rfl rfl (stsub_consI rfl (paid_0 _ _).symm stsub_nil)) ht_nil ?_
              intro k hk K2 hK2
              dsimp only [List.cons_append, List.nil_append]
              have hp0 := hpb k
              have hp1 := hpb (k + 1)
              refine JC_seq ?_
              refine JC_seq ?_
              refine JC_region ?_
              refine JL_pd rfl (det_move rfl) ?_
              refine JL_pd rfl (det_move rfl) ?_
              refine JL_pd rfl (det_len rfl Tryz.runUnderlying31) ?_
              refine JL_pd rfl (det_lss rfl rfl) ?_
              refine JL_nil ?_
              refine JE_seq ?_
              -- stop: cond
              refine JC_if rfl (fun hk1 => ?_) (fun hk1 => ?_)
              · have hk2 : k < (sharesV cst (onesL xs[i].g.feet.length)).length := by omega
                have hsk := hsg k hk2
                have hek := hev k (by omega)
                have hpu := (paid_up VS hW k (by omega)).1
                have hpu2 := (paid_up VS hW k (by omega)).2.1
                have hqe : cst.tdiv ((sharesV cst (onesL xs[i].g.feet.length)).length : Int) = cst.tdiv (xs[i].g.feet.length : Int) := by rw [hSl]
                rw [← hsk, ← hqe] at hek
                have hq : -1 ≤ cst.tdiv ((sharesV cst (onesL xs[i].g.feet.length)).length : Int) ∧ cst.tdiv ((sharesV cst (onesL xs[i].g.feet.length)).length : Int) ≤ 720000 := by omega
                refine JC_skip ?_
                refine JE_seq ?_
                refine JC_seq ?_
                refine JC_block ?_
                refine JC_seq ?_
                refine JC_region ?_
                refine JL_pd rfl (det_move rfl) ?_
                refine JL_pd rfl (det_move rfl) ?_
                refine JL_pd rfl (det_move rfl) ?_
                refine JL_dt rfl (det_indexAddr rfl rfl (by first | rfl | omega) (by first | assumption | omega | decide) Tryz.runUnderlying31 Tryz.sizeOf3) ?_
                refine JL_dt rfl (det_loadE rfl (by first | assumption | omega | decide) Tryz.isAgg3 rfl rfl) ?_
                refine JL_pd rfl (det_add rfl rfl ⟨by omega, by omega⟩) ?_
                refine JL_pd rfl (det_assign rfl) ?_
                refine JL_nil ?_
                refine JE_seq ?_
                refine JC_seq ?_
                refine JC_draw [] (by kernel_rfl) ?_
                refine JA_pd (i := 0) rfl (by kernel_rfl) rfl rfl (det_move rfl) ?_
                refine JA_pd (i := 1) rfl (by kernel_rfl) rfl rfl (det_move rfl) ?_
                refine JA_dt (i := 2) rfl (by kernel_rfl) (by kernel_rfl) rfl rfl (det_indexAddr rfl rfl (by first | rfl | omega) (by first | assumption | omega | decide) Tryz.runUnderlying31 Tryz.sizeOf3) ?_
                refine JA_dt (i := 3) rfl (by kernel_rfl) (by kernel_rfl) rfl rfl (det_loadE rfl (by first | assumption | omega | decide) Tryz.isAgg3 rfl rfl) ?_
                refine JA_pd (i := 4) rfl (by kernel_rfl) rfl rfl (det_move rfl) ?_
                refine JA_pd (i := 5) rfl (by kernel_rfl) rfl rfl (det_move rfl) ?_
                refine JA_pd (i := 6) rfl (by kernel_rfl) rfl rfl (det_len rfl Tryz.runUnderlying31) ?_
                refine JA_pd (i := 7) rfl (by kernel_rfl) rfl rfl (det_quo rfl rfl (by omega) ⟨by omega, by omega⟩) ?_
                refine JA_pd (i := 8) rfl (by kernel_rfl) rfl rfl (det_lss rfl rfl) ?_
                refine JA_pd (i := 9) rfl (by kernel_rfl) rfl rfl (det_move rfl) ?_
                -- stop: guard 9
                refine JA_is (d0 := 232) false rfl (by simp; omega) (fun k5 => ?_)
                refine JA_gpd (i := 10) rfl (by kernel_rfl) rfl rfl rfl rfl k5 (det_move rfl) ?_
                refine JA_gpd (i := 11) rfl (by kernel_rfl) rfl rfl rfl rfl k5 (det_move rfl) ?_
                refine JA_gdt (i := 12) rfl (by kernel_rfl) (by kernel_rfl) rfl rfl rfl rfl k5 (det_indexAddr rfl rfl (by first | rfl | omega) (by first | assumption | omega | decide) Tryz.runUnderlying31 Tryz.sizeOf3) ?_
                refine JA_gdt (i := 13) rfl (by kernel_rfl) (by kernel_rfl) rfl rfl rfl rfl k5 (det_loadE rfl (by first | assumption | omega | decide) Tryz.isAgg3 rfl rfl) ?_
                refine JA_gpd (i := 14) rfl (by kernel_rfl) rfl rfl rfl rfl k5 (det_move rfl) ?_
                refine JA_gpd (i := 15) rfl (by kernel_rfl) rfl rfl rfl rfl k5 (det_move rfl) ?_
                refine JA_gpd (i := 16) rfl (by kernel_rfl) rfl rfl rfl rfl k5 (det_len rfl Tryz.runUnderlying31) ?_
                refine JA_gpd (i := 17) rfl (by kernel_rfl) rfl rfl rfl rfl k5 (det_quo rfl rfl (by omega) ⟨by omega, by omega⟩) ?_
                refine JA_gpd (i := 18) rfl (by kernel_rfl) rfl rfl rfl rfl k5 (det_add rfl rfl ⟨by omega, by omega⟩) ?_
                refine JA_gpd (i := 19) rfl (by kernel_rfl) rfl rfl rfl rfl k5 (det_gtr rfl rfl) ?_
                refine JA_pd (i := 20) rfl (by kernel_rfl) rfl rfl (det_pick_f rfl k5 rfl) ?_
                refine JA_done (by kernel_rfl) ?_
                refine JE_seq ?_
                -- stop: cond
                refine JC_cond rfl (fun hk6 => ?_) (fun hk6 => ?_)
                · exact absurd hk6 (by simp; omega)
                refine JC_skip ?_
                refine JE_block ?_
                refine JE_seq ?_
                refine JC_region ?_
                refine JL_pd rfl (det_move rfl) ?_
                refine JL_pd rfl (det_add rfl rfl ⟨by omega, by omega⟩) ?_
                refine JL_pd rfl (det_assign rfl) ?_
                refine JL_nil ?_
                -- stop: end
                refine JE_roundF hK2 (k + 1) (by omega) (by omega) (stsub_consI rfl (by omega) (stsub_consI rfl (by omega) stsub_nil)) ht_nil
              · obtain rfl : k = (sharesV cst (onesL xs[i].g.feet.length)).length := by omega
                have hpa : paidV cst (onesL xs[i].g.feet.length) (sharesV cst (onesL xs[i].g.feet.length)).length = cst := by
                  rw [sharesV_len]; exact paid_all hW
                rw [hpa]
                refine JC_exit ?_
                refine JE_seq_exit ?_
                refine JE_then_exit ?_
                refine JE_block_here ?_
                refine JE_seq ?_
                refine JC_seq ?_
                refine JC_region ?_
                refine JL_pd rfl (det_move rfl) ?_
                refine JL_pd rfl (det_move rfl) ?_
                refine JL_pd rfl (det_neq rfl rfl) ?_
                refine JL_nil ?_
                refine JE_seq ?_
                -- stop: cond
                refine JC_ifn rfl (fun hk7 => ?_) (fun hk7 => ?_)
                · exact absurd rfl hk7
                refine JC_skip ?_
                refine JE_block ?_
                refine JE_seq ?_
                refine JC_region ?_
                refine JL_pd rfl (det_move rfl) ?_
                refine JL_pd rfl (det_add rfl rfl ⟨by omega, by omega⟩) ?_
                refine JL_pd rfl (det_assign rfl) ?_
                refine JL_nil ?_
                -- stop: end
                refine JE_roundF hK (i + 1) (by omega) (by omega) (stsub_consI rfl (by omega) stsub_nil) ht_nil
      · obtain rfl : i = xs.length := by omega
        refine JC_exit ?_
        refine JE_seq_exit ?_
        refine JE_then_exit ?_
        refine JE_block_here ?_
        refine JE_seq ?_
        refine JC_seq ?_
        refine JC_region ?_
        refine JL_step rfl rfl rfl (jo_callv rfl rfl Tryz.call30 rfl (charged_j)) fun _ => ?_
        refine JL_pd rfl (det_assign rfl) ?_
        refine JL_nil ?_
        refine JE_seq ?_
        refine JC_ret ?_
        -- stop: out
        refine JE_out (.inl rfl) () (results1 Tryz.results4 (res_tmp rfl)) rfl (List.Perm.refl _) (fun _ _ => trivial)
end Go.Proofs.YthpkgabckklojaaGreat.Bl

/- The statements about lend: LendWhole. -/
import Derived.Test.YtkmaafnbefpdjaaE42
set_option linter.unusedSimpArgs false
set_option linter.unusedVariables false
namespace Go.Proofs.Ytkmaafnbefpdjaa
open Go.RowKit Go.Shelf

set_option maxRecDepth 100000 in
set_option maxHeartbeats 4000000 in
theorem LendWhole_j (x : Hx) (ga : Option Addr) (gc : Nat) (xs : List Gx) (a : Option Addr) (cap : Nat) (plan : List Int) : Cv Try.prog 12 [.agg #[I x.h.lanes, .slice x.a x.h.shoes.length x.c], .slice ga xs.length gc, .slice a plan.length cap] (KAnd (KHx x) (KAnd (KGs ga gc xs) (KSl a plan.length cap encI plan))) (.bool true) := by
  have hgl : (gs xs).length = xs.length := List.length_map _
  refine Cx_of Try.func12 rfl Try.ntmps12 rfl fun w0 M0 => ?_
  refine JC_seq ?_
  refine JC_region ?_
  refine JL_step rfl rfl rfl (jo_box rfl rfl) fun b3 => ?_
  refine JL_pd rfl (det_assign rfl) ?_
  refine JL_nil ?_
  refine JE_seq ?_
  refine JC_seq ?_
  refine JC_region ?_
  refine JL_pd rfl (det_fieldAddr rfl fo_24_0) ?_
  refine JL_dt rfl (det_loadK rfl Try.isAgg3 rfl) ?_
  refine JL_pd rfl (det_build rfl (bld_24_0 _)) ?_
  refine JL_step rfl rfl rfl (jo_alloc0 Try.zeroValue24 rfl) fun b7 => ?_
  refine JL_step0 rfl rfl (jo_store rfl rfl rfl (by first | (simp only [splice_norm]; done) | (simp only [splice_norm]; rfl) | rfl) Try.sizeOf24 rfl rfl) fun _ => ?_
  refine JL_nil ?_
  refine JE_seq ?_
  refine JC_seq ?_
  refine JC_region ?_
  refine JL_pd rfl (det_assign rfl) ?_
  refine JL_nil ?_
  refine JE_seq ?_
  refine JC_seq ?_
  refine JC_seq ?_
  refine JC_region ?_
  refine JL_pd rfl (det_assign rfl) ?_
  refine JL_nil ?_
  refine JE_seq ?_
  refine JC_block ?_
  -- stop: loop
  refine JC_pure (p := xs.length ≤ 9223372036854775807) (by intro w h; exact (Knows.know (F := KSl ga xs.length gc encG xs) w h).1.bd) fun hz => ?_
  refine JC_loopF (γ := Nat) (fun i => i ≤ xs.length ∧ i ≤ 13) (fun i => [(9, I i), (8, I (sumW ((gs xs).take i)))]) (fun _ => []) (fun i => xs.length - i) 0 ⟨Nat.zero_le _, by omega⟩ (stsub_consI rfl rfl (stsub_consI rfl (by rw [List.take_zero]; rfl) stsub_nil)) ht_nil ?_
  rintro i ⟨hi, hi13⟩ K hK
  dsimp only [List.cons_append, List.nil_append]
  generalize hA : sumW ((gs xs).take i) = A
  refine JC_seq ?_
  refine JC_seq ?_
  refine JC_region ?_
  refine JL_pd rfl (det_move rfl) ?_
  refine JL_pd rfl (det_move rfl) ?_
  refine JL_pd rfl (det_len rfl Try.runUnderlying25) ?_
  refine JL_pd rfl (det_lss rfl rfl) ?_
  refine JL_pd rfl (det_move rfl) ?_
  -- stop: guard 4
  refine JL_join1 3 29 (.bool (decide ((i : Int) < xs.length) && decide ((i : Int) < 13))) (fun hj => ?_) ?_
  · refine JL_split (d0 := 26) rfl (fun q1 => ?_) (fun q1 => ?_)
    · refine JL_guard rfl rfl q1 ?_
      refine JL_pd rfl (det_move rfl) ?_
      refine JL_guard rfl rfl q1 ?_
      refine JL_pd rfl (det_lss rfl rfl) ?_
      refine JL_pd rfl (det_pick_t rfl q1 rfl) ?_
      exact hj (by kernel_rfl) (stsub_consB rfl (by clear hj; first | rfl | (simp only [q1, Bool.and_true, Bool.true_and, Bool.false_and, Bool.and_false, Bool.or_true, Bool.true_or, Bool.or_false, Bool.false_or, Bool.not_true, Bool.not_false]; done) | (simp [q1]; done) | (simp at q1; done) | (simp [q1] <;> omega) | (exfalso; simp at q1; omega)) stsub_nil)
    · refine JL_skip rfl rfl q1 rfl ?_
      refine JL_skip rfl rfl q1 rfl ?_
      refine JL_pd rfl (det_pick_f rfl q1 rfl) ?_
      exact hj (by kernel_rfl) (stsub_consB rfl (by clear hj; first | rfl | (simp only [q1, Bool.and_true, Bool.true_and, Bool.false_and, Bool.and_false, Bool.or_true, Bool.true_or, Bool.or_false, Bool.false_or, Bool.not_true, Bool.not_false]; done) | (simp [q1]; done) | (simp at q1; done) | (simp [q1] <;> omega) | (exfalso; simp at q1; omega)) stsub_nil)
  refine JL_nil ?_
  refine JE_seq ?_
  -- stop: cond
  refine JC_cond rfl (fun h1 => ?_) (fun h1 => ?_)
  · simp only [Bool.and_eq_true, decide_eq_true_eq] at h1
    have hi2 : i < xs.length := by omega
    have hsn : sumW ((gs xs).take (i + 1)) = IntKind.i64.wrap (A + (xs[i].g.feet.length : Int)) := by
      unfold sumW at hA ⊢
      rw [foldl_snoc _ _ _ i (by omega), hA]
      simp [gs]
    refine JC_skip ?_
    refine JE_seq ?_
    refine JC_seq ?_
    refine JC_block ?_
    refine JC_region ?_
    refine JL_pd rfl (det_move rfl) ?_
    refine JL_pd rfl (det_move rfl) ?_
    refine JL_pd rfl (det_move rfl) ?_
    refine JL_dt rfl (det_indexAddr rfl rfl (by first | rfl | omega) (by first | assumption | omega | decide) Try.runUnderlying25 Try.sizeOf55) ?_
    refine JL_pd rfl (det_fieldAddrE rfl fo_55_2) ?_
    refine JL_dt rfl (det_loadEk rfl (by first | assumption | omega | decide) Try.isAgg22 rfl rfl) ?_
    refine JL_pd rfl (det_len rfl Try.runUnderlying22) ?_
    refine JL_pd rfl (det_addR (sumW ((gs xs).take (i + 1))) rfl rfl hsn.symm) ?_
    refine JL_pd rfl (det_assign rfl) ?_
    refine JL_nil ?_
    refine JE_block ?_
    refine JE_seq ?_
    refine JC_region ?_
    refine JL_pd rfl (det_move rfl) ?_
    refine JL_pd rfl (det_add rfl rfl ⟨by omega, by omega⟩) ?_
    refine JL_pd rfl (det_assign rfl) ?_
    refine JL_nil ?_
    -- stop: end
    exact JE_roundF hK (i + 1) ⟨by omega, by omega⟩ (by omega) (stsub_consI rfl (by omega) (stsub_consI rfl rfl stsub_nil)) ht_nil
  · refine JC_exit ?_
    refine JE_seq_exit ?_
    refine JE_then_exit ?_
    refine JE_block_here ?_
    refine JE_seq ?_
    refine JC_seq ?_
    refine JC_seq ?_
    refine JC_region ?_
    refine JL_pd rfl (det_assign rfl) ?_
    refine JL_nil ?_
    refine JE_seq ?_
    refine JC_block ?_
    -- stop: loop
    refine JC_nil 3 1 ?_
    refine JC_loopF (γ := Nat × Value) (fun q => q.1 ≤ 10) (fun q => [(10, I q.1)]) (fun q => [bx b7 [I x.h.lanes, q.2], ow q.2 3 1 (List.replicate q.1 (min 20 A)).length ((List.replicate q.1 (min 20 A)).flatMap encI)]) (fun q => 10 - q.1) (0, .slice none 0 0) (by simp) (stsub_consI rfl rfl stsub_nil) (ht_bx rfl (ht_ow rfl rfl ht_nil)) ?_
    rintro ⟨s, v⟩ hs K2 hK2
    dsimp only [List.cons_append, List.nil_append] at hs ⊢
    have hrl : (List.replicate s (min 20 A)).length = s := List.length_replicate ..
    have hrs : (List.replicate (s + 1) (min 20 A)) = List.replicate s (min 20 A) ++ [min 20 A] := List.replicate_succ' ..
    rw [hrl]
    refine JC_seq ?_
    refine JC_seq ?_
    refine JC_region ?_
    refine JL_pd rfl (det_move rfl) ?_
    refine JL_pd rfl (det_lss rfl rfl) ?_
    refine JL_nil ?_
    refine JE_seq ?_
    -- stop: cond
    refine JC_if rfl (fun h2 => ?_) (fun h2 => ?_)
    · refine JC_skip ?_
      refine JE_seq ?_
      refine JC_seq ?_
      refine JC_block ?_
      refine JC_region ?_
      refine JL_pd rfl (det_fieldAddr rfl fo_24_1) ?_
      refine JL_dt rfl (det_loadK rfl Try.isAgg22 rfl) ?_
      refine JL_pd rfl (det_move rfl) ?_
      refine JL_pd rfl (det_min rfl rfl) ?_
      refine JL_step rfl rfl rfl (jo_buildSlice rfl (bsl_22_1_0 _)) fun b48 => ?_
      refine JL_step rfl rfl rfl (jo_append el_22 rfl rfl rfl rfl (by omega)) fun b49 => ?_
      refine JL_pd rfl (det_fieldAddr rfl fo_24_1) ?_
      refine JL_step0 rfl rfl (jo_store rfl rfl rfl (by first | (simp only [splice_norm]; done) | (simp only [splice_norm]; rfl) | rfl) Try.sizeOf22 rfl rfl) fun _ => ?_
      refine JL_nil ?_
      refine JE_block ?_
      refine JE_seq ?_
      refine JC_region ?_
      refine JL_pd rfl (det_move rfl) ?_
      refine JL_pd rfl (det_add rfl rfl ⟨by omega, by omega⟩) ?_
      refine JL_pd rfl (det_assign rfl) ?_
      refine JL_nil ?_
      -- stop: end
      exact JE_roundF hK2 (s + 1, .slice (some ⟨b49.1, 0, none⟩) (s + 1) b49.2) (by simp only; omega) (by simp only; omega) (stsub_consI rfl (by simp only; omega) stsub_nil) (ht_bx rfl (ht_ow (by simp) (by rw [hrs, List.flatMap_append]; rfl) ht_nil))
    · obtain rfl : s = 10 := by omega
      refine JC_slice (enc := encI) (v := v) (List.replicate 10 (min 20 A)) noFp rfl rfl ?_
      rintro va vc rfl
      refine JC_keep b7 noFp ?_
      obtain ⟨L, hLd⟩ : ∃ L, List.replicate 10 (min 20 A) = L := ⟨_, rfl⟩
      rw [hLd]
      have hrd := ready_j ⟨⟨x.h.lanes, L⟩, va, vc⟩ ga gc xs
      refine JC_exit ?_
      refine JE_seq_exit ?_
      refine JE_then_exit ?_
      refine JE_block_here ?_
      refine JE_seq ?_
      refine JC_seq ?_
      refine JC_seq ?_
      refine JC_region ?_
      refine JL_dt rfl (det_loadKA rfl Try.isAgg24 Try.sizeOf24 rfl rfl) ?_
      refine JL_pd rfl (det_move rfl) ?_
      refine JL_step rfl rfl rfl (jo_callv rfl rfl Try.call33 rfl (hrd)) fun _ => ?_
      refine JL_pd rfl (det_not rfl) ?_
      refine JL_pd rfl (det_move rfl) ?_
      -- stop: guard 4
      refine JL_join1 8 63 (.bool (!readyB ⟨x.h.lanes, L⟩ (gs xs) || decide ((12 : Int) < (plan.length : Int)) || decide ((20 : Int) < A))) (fun hj => ?_) ?_
      · refine JL_split (d0 := 55) rfl (fun q2 => ?_) (fun q2 => ?_)
        · refine JL_skip rfl rfl q2 rfl ?_
          refine JL_skip rfl rfl q2 rfl ?_
          refine JL_skip rfl rfl q2 rfl ?_
          refine JL_pd rfl (det_pick_t rfl q2 rfl) ?_
          refine JL_pd rfl (det_move rfl) ?_
          refine JL_skip rfl rfl rfl rfl ?_
          refine JL_skip rfl rfl rfl rfl ?_
          refine JL_pd rfl (det_pick_t rfl rfl rfl) ?_
          exact hj (by kernel_rfl) (stsub_consB rfl (by clear hj; first | rfl | (simp only [q2, Bool.and_true, Bool.true_and, Bool.false_and, Bool.and_false, Bool.or_true, Bool.true_or, Bool.or_false, Bool.false_or, Bool.not_true, Bool.not_false]; done) | (simp [q2]; done) | (simp at q2; done) | (simp [q2] <;> omega) | (exfalso; simp at q2; omega)) stsub_nil)
        · refine JL_guard rfl rfl q2 ?_
          refine JL_pd rfl (det_move rfl) ?_
          refine JL_guard rfl rfl q2 ?_
          refine JL_pd rfl (det_len rfl Try.runUnderlying22) ?_
          refine JL_guard rfl rfl q2 ?_
          refine JL_pd rfl (det_gtr rfl rfl) ?_
          refine JL_pd rfl (det_pick_f rfl q2 rfl) ?_
          refine JL_pd rfl (det_move rfl) ?_
          refine JL_split (d0 := 60) rfl (fun q3 => ?_) (fun q3 => ?_)
          · refine JL_skip rfl rfl q3 rfl ?_
            refine JL_skip rfl rfl q3 rfl ?_
            refine JL_pd rfl (det_pick_t rfl q3 rfl) ?_
            exact hj (by kernel_rfl) (stsub_consB rfl (by clear hj; first | rfl | (simp only [q2, q3, Bool.and_true, Bool.true_and, Bool.false_and, Bool.and_false, Bool.or_true, Bool.true_or, Bool.or_false, Bool.false_or, Bool.not_true, Bool.not_false]; done) | (simp [q2, q3]; done) | (simp at q2; done) | (simp at q3; done) | (simp [q2, q3] <;> omega) | (exfalso; simp at q2 q3; omega) | (simp [q3] at q2; done) | (simp [q2] at q3; done)) stsub_nil)
          · refine JL_guard rfl rfl q3 ?_
            refine JL_pd rfl (det_move rfl) ?_
            refine JL_guard rfl rfl q3 ?_
            refine JL_pd rfl (det_gtr rfl rfl) ?_
            refine JL_pd rfl (det_pick_f rfl q3 rfl) ?_
            exact hj (by kernel_rfl) (stsub_consB rfl (by clear hj; first | rfl | (simp only [q2, q3, Bool.and_true, Bool.true_and, Bool.false_and, Bool.and_false, Bool.or_true, Bool.true_or, Bool.or_false, Bool.false_or, Bool.not_true, Bool.not_false]; done) | (simp [q2, q3]; done) | (simp at q2; done) | (simp at q3; done) | (simp [q2, q3] <;> omega) | (exfalso; simp at q2 q3; omega) | (simp [q3] at q2; done) | (simp [q2] at q3; done)) stsub_nil)
      refine JL_nil ?_
      refine JE_seq ?_
      -- stop: cond
      refine JC_cond rfl (fun h3 => ?_) (fun h3 => ?_)
      · refine JC_seq ?_
        refine JC_region ?_
        refine JL_step rfl rfl rfl (jo_callv rfl rfl Try.call17 rfl (awake_j)) fun _ => ?_
        refine JL_pd rfl (det_assign rfl) ?_
        refine JL_nil ?_
        refine JE_seq ?_
        refine JC_ret ?_
        refine JE_seq_ret ?_
        -- stop: out
        refine JE_out (.inl rfl) () (results1 Try.results12 (res_tmp rfl)) rfl (List.Perm.refl _) (fun _ _ => trivial)
      · simp only [Bool.or_eq_false_iff, Bool.not_eq_false', decide_eq_false_iff_not] at h3
        obtain ⟨⟨h3, h4⟩, h5⟩ := h3
        obtain ⟨⟨t1, t2, t3⟩, c1⟩ := ready_of h3
        have V := vld_of c1
        have hl0 := V.hs.l0
        have hl1 := V.hs.l1
        have hn8 := V.n
        have hix : i = xs.length := by
          by_cases e : i = xs.length
          · exact e
          · rw [decide_eq_true (show (i : Int) < xs.length by omega), decide_eq_true (show (i : Int) < 13 by omega)] at h1
            cases h1
        have hAe : A = ((feetL (gs xs)).length : Int) := by
          rw [← hA, hix, List.take_of_length_le (by omega)]
          exact sumW_eq V.fw (by omega)
        have hM : min 20 A = A := by omega
        have hLA : List.replicate 10 A = L := by rw [← hLd, hM]
        have hff : ∀ f ∈ feetL (gs xs), 0 ≤ f ∧ f ≤ 9 := fun f hf => by
          obtain ⟨g, hg, hgf⟩ := List.mem_flatMap.1 hf
          exact (V.gr g hg).ft f hgf
        have hN := srvN_full x.h.lanes.toNat V.gr
        have hsv := served_l ⟨⟨x.h.lanes, L⟩, va, vc⟩ ga gc xs c1
        dsimp only at hsv
        generalize srvN x.h.lanes.toNat (gs xs) = N at hN hsv
        have hshd : shodE ⟨x.h.lanes, L⟩ (feetL (gs xs)) = 0 := of_vfeet ⟨V.hs, by omega, hff⟩
        have hbr := fun ad c => bare_l ⟨⟨x.h.lanes, L⟩, va, vc⟩ ad c (feetL (gs xs)) hshd
        have hb0 : barN L (feetL (gs xs)) = 0 := by rw [← hLA]; exact barN_full hff (by omega)
        dsimp only at hbr
        rw [hb0] at hbr
        refine JC_skip ?_
        refine JE_seq ?_
        refine JC_seq ?_
        refine JC_region ?_
        refine JL_dt rfl (det_loadKA rfl Try.isAgg24 Try.sizeOf24 rfl rfl) ?_
        refine JL_pd rfl (det_move rfl) ?_
        -- stop: op  2 t68 := (call (Call (value f36) (t66 t67) (24 25)))   <0 1>   242
        refine JL_step rfl rfl rfl (jo_callv rfl rfl Try.call36 rfl (hsv)) fun _ => ?_
        refine JL_pd rfl (det_move rfl) ?_
        refine JL_pd rfl (det_extract rfl rfl) ?_
        refine JL_pd rfl (det_extract rfl rfl) ?_
        refine JL_pd rfl (det_assign rfl) ?_
        refine JL_pd rfl (det_assign rfl) ?_
        refine JL_nil ?_
        refine JE_seq ?_
        refine JC_seq ?_
        refine JC_seq ?_
        refine JC_region ?_
        refine JL_pd rfl (det_move rfl) ?_
        refine JL_pd rfl (det_not rfl) ?_
        refine JL_pd rfl (det_move rfl) ?_
        -- stop: guard 2
        refine JL_is (d0 := 73) false rfl (by rfl) (fun g1 => ?_)
        refine JL_guard rfl rfl g1 ?_
        refine JL_pd rfl (det_move rfl) ?_
        refine JL_guard rfl rfl g1 ?_
        refine JL_pd rfl (det_move rfl) ?_
        refine JL_guard rfl rfl g1 ?_
        refine JL_pd rfl (det_len rfl Try.runUnderlying25) ?_
        refine JL_guard rfl rfl g1 ?_
        refine JL_pd rfl (det_fieldAddr rfl fo_24_0) ?_
        refine JL_guard rfl rfl g1 ?_
        refine JL_dt rfl (det_loadK rfl Try.isAgg3 rfl) ?_
        refine JL_guard rfl rfl g1 ?_
        refine JL_pd rfl (det_min rfl rfl) ?_
        refine JL_guard rfl rfl g1 ?_
        refine JL_pd rfl (det_lss rfl rfl) ?_
        refine JL_pd rfl (det_pick_f rfl g1 rfl) ?_
        refine JL_pd rfl (det_move rfl) ?_
        -- stop: guard 11
        refine JL_is (d0 := 82) false rfl (by exact decide_eq_false (by omega)) (fun g2 => ?_)
        refine JL_guard rfl rfl g2 ?_
        refine JL_pd rfl (det_move rfl) ?_
        refine JL_guard rfl rfl g2 ?_
        refine JL_pd rfl (det_move rfl) ?_
        refine JL_guard rfl rfl g2 ?_
        refine JL_pd rfl (det_len rfl Try.runUnderlying25) ?_
        refine JL_guard rfl rfl g2 ?_
        refine JL_pd rfl (det_lss rfl rfl) ?_
        refine JL_guard rfl rfl g2 ?_
        refine JL_pd rfl (det_move rfl) ?_
        -- stop: guard 16
        have hNl : (decide (N < (xs.length : Int)) && decide ((xs.length : Int) ≤ x.h.lanes)) = false := by
          by_cases e : N < (xs.length : Int)
          · rw [decide_eq_false (show ¬ (xs.length : Int) ≤ x.h.lanes by omega), Bool.and_false]
          · rw [decide_eq_false e, Bool.false_and]
        refine JL_join1 7 94 (.bool (decide (N < (xs.length : Int)) && decide ((xs.length : Int) ≤ x.h.lanes))) (fun hj => ?_) ?_
        · refine JL_split (d0 := 87) rfl (fun q4 => ?_) (fun q4 => ?_)
          · refine JL_guard rfl rfl q4 ?_
            refine JL_pd rfl (det_fieldAddr rfl fo_24_0) ?_
            refine JL_guard rfl rfl q4 ?_
            refine JL_dt rfl (det_loadK rfl Try.isAgg3 rfl) ?_
            refine JL_guard rfl rfl q4 ?_
            refine JL_pd rfl (det_move rfl) ?_
            refine JL_guard rfl rfl q4 ?_
            refine JL_pd rfl (det_len rfl Try.runUnderlying25) ?_
            refine JL_guard rfl rfl q4 ?_
            refine JL_pd rfl (det_geq rfl rfl) ?_
            refine JL_guard rfl rfl g2 ?_
            refine JL_pd rfl (det_pick_t rfl q4 rfl) ?_
            refine JL_pd rfl (det_pick_f rfl g2 rfl) ?_
            exact hj (by kernel_rfl) (stsub_consB rfl (by clear hj; first | rfl | (simp only [q4, Bool.and_true, Bool.true_and, Bool.false_and, Bool.and_false, Bool.or_true, Bool.true_or, Bool.or_false, Bool.false_or, Bool.not_true, Bool.not_false]; done) | (simp [q4]; done) | (simp at q4; done) | (simp [q4] <;> omega) | (exfalso; simp at q4; omega)) stsub_nil)
          · refine JL_skip rfl rfl q4 rfl ?_
            refine JL_skip rfl rfl q4 rfl ?_
            refine JL_skip rfl rfl q4 rfl ?_
            refine JL_skip rfl rfl q4 rfl ?_
            refine JL_skip rfl rfl q4 rfl ?_
            refine JL_guard rfl rfl g2 ?_
            refine JL_pd rfl (det_pick_f rfl q4 rfl) ?_
            refine JL_pd rfl (det_pick_f rfl g2 rfl) ?_
            exact hj (by kernel_rfl) (stsub_consB rfl (by clear hj; first | rfl | (simp only [q4, Bool.and_true, Bool.true_and, Bool.false_and, Bool.and_false, Bool.or_true, Bool.true_or, Bool.or_false, Bool.false_or, Bool.not_true, Bool.not_false]; done) | (simp [q4]; done) | (simp at q4; done) | (simp [q4] <;> omega) | (exfalso; simp at q4; omega)) stsub_nil)
        refine JL_nil ?_
        refine JE_seq ?_
        -- stop: cond
        rw [hNl]
        refine JC_cond rfl (fun k1 => ?_) (fun k1 => ?_)
        · cases k1
        refine JC_skip ?_
        refine JE_seq ?_
        refine JC_seq ?_
        refine JC_region ?_
        refine JL_pd rfl (det_assign rfl) ?_
        refine JL_nil ?_
        refine JE_seq ?_
        refine JC_seq ?_
        refine JC_seq ?_
        refine JC_region ?_
        refine JL_pd rfl (det_assign rfl) ?_
        refine JL_nil ?_
        refine JE_seq ?_
        refine JC_block ?_
        -- stop: loop
        refine JC_nil 3 1 ?_
        refine JC_loopF (γ := Nat × Value) (fun q => q.1 ≤ xs.length) (fun q => [(14, I q.1), (13, q.2)]) (fun q => [ow q.2 3 1 (feetL ((gs xs).take q.1)).length ((feetL ((gs xs).take q.1)).flatMap encI)]) (fun q => xs.length - q.1) (0, .slice none 0 0) (by simp) (stsub_consI rfl rfl (stsub_cons rfl stsub_nil)) (ht_ow (by rw [List.take_zero]; rfl) (by rw [List.take_zero]; rfl) ht_nil) ?_
        rintro ⟨m, u⟩ hm K3 hK3
        dsimp only [List.cons_append, List.nil_append] at hm ⊢
        have hls : (feetL ((gs xs).take m)).length ≤ (feetL (gs xs)).length := by
          unfold feetL
          conv => rhs; rw [← List.take_append_drop m (gs xs), List.flatMap_append, List.length_append]
          omega
        refine JC_seq ?_
        refine JC_seq ?_
        refine JC_region ?_
        refine JL_pd rfl (det_move rfl) ?_
        refine JL_pd rfl (det_move rfl) ?_
        refine JL_pd rfl (det_len rfl Try.runUnderlying25) ?_
        refine JL_pd rfl (det_lss rfl rfl) ?_
        refine JL_nil ?_
        refine JE_seq ?_
        -- stop: cond
        refine JC_if rfl (fun k2 => ?_) (fun k2 => ?_)
        · have hm2 : m < xs.length := by omega
          have hf6 := V.fw _ (List.mem_map.2 ⟨_, List.getElem_mem hm2, rfl⟩ : xs[m].g ∈ gs xs)
          have hsn : feetL ((gs xs).take (m + 1)) = feetL ((gs xs).take m) ++ xs[m].g.feet := by
            unfold feetL
            rw [take_snoc (show m < (gs xs).length by omega), List.flatMap_append]
            simp [gs]
          refine JC_know (R' := KAnd (KSl xs[m].a xs[m].g.feet.length xs[m].c encI xs[m].g.feet) _) (fun w h => ⟨(Knows.know (F := KFt xs) w h) _ (List.getElem_mem hm2), h⟩) ?_
          refine JC_skip ?_
          refine JE_seq ?_
          refine JC_seq ?_
          refine JC_block ?_
          refine JC_region ?_
          refine JL_pd rfl (det_move rfl) ?_
          refine JL_pd rfl (det_move rfl) ?_
          refine JL_pd rfl (det_move rfl) ?_
          refine JL_dt rfl (det_indexAddr rfl rfl (by first | rfl | omega) (by first | assumption | omega | decide) Try.runUnderlying25 Try.sizeOf55) ?_
          refine JL_pd rfl (det_fieldAddrE rfl fo_55_2) ?_
          refine JL_dt rfl (det_loadEk rfl (by first | assumption | omega | decide) Try.isAgg22 rfl rfl) ?_
          refine JL_step rfl rfl rfl (jo_appendK (e := encI) el_22 rfl rfl encI_one (by omega)) fun b107 => ?_
          refine JL_pd rfl (det_assign rfl) ?_
          refine JL_nil ?_
          refine JE_block ?_
          refine JE_seq ?_
          refine JC_region ?_
          refine JL_pd rfl (det_move rfl) ?_
          refine JL_pd rfl (det_add rfl rfl ⟨by omega, by omega⟩) ?_
          refine JL_pd rfl (det_assign rfl) ?_
          refine JL_nil ?_
          -- stop: end
          exact JE_roundF hK3 (m + 1, b107) (by simp only; omega) (by simp only; omega) (stsub_consI rfl (by simp only; omega) (stsub_cons rfl stsub_nil)) (ht_ow (by rw [hsn, List.length_append]) (by rw [hsn, List.flatMap_append]) ht_nil)
        · obtain rfl : m = xs.length := by omega
          rw [List.take_of_length_le (show (gs xs).length ≤ xs.length by omega)]
          refine JC_slice (enc := encI) (v := u) (feetL (gs xs)) noFp rfl rfl ?_
          rintro ua uc rfl
          have hLl : L.length = 10 := V.hs.n
          have hshV : shV L ((gs xs).zip plan) 31 = [] := by rw [← hLA]; exact shV_full V.gr (by omega) 31
          refine JC_exit ?_
          refine JE_seq_exit ?_
          refine JE_then_exit ?_
          refine JE_block_here ?_
          refine JE_seq ?_
          refine JC_seq ?_
          refine JC_region ?_
          refine JL_dt rfl (det_loadKA rfl Try.isAgg24 Try.sizeOf24 rfl rfl) ?_
          refine JL_pd rfl (det_move rfl) ?_
          refine JL_step rfl rfl rfl (jo_callv rfl rfl Try.call37 rfl (hbr ua uc)) fun _ => ?_
          refine JL_pd rfl (det_move rfl) ?_
          refine JL_pd rfl (det_extract rfl rfl) ?_
          refine JL_pd rfl (det_extract rfl rfl) ?_
          refine JL_pd rfl (det_assign rfl) ?_
          refine JL_pd rfl (det_assign rfl) ?_
          refine JL_nil ?_
          refine JE_seq ?_
          refine JC_seq ?_
          refine JC_seq ?_
          refine JC_region ?_
          refine JL_pd rfl (det_move rfl) ?_
          refine JL_pd rfl (det_not rfl) ?_
          refine JL_pd rfl (det_move rfl) ?_
          -- stop: guard 2
          refine JL_is (d0 := 116) false rfl (by rfl) (fun g3 => ?_)
          refine JL_guard rfl rfl g3 ?_
          refine JL_pd rfl (det_move rfl) ?_
          refine JL_guard rfl rfl g3 ?_
          refine JL_pd rfl (det_neq rfl rfl) ?_
          refine JL_pd rfl (det_pick_f rfl g3 rfl) ?_
          refine JL_nil ?_
          refine JE_seq ?_
          -- stop: cond
          refine JC_cond rfl (fun k3 => ?_) (fun k3 => ?_)
          · exact absurd k3 (by decide)
          refine JC_skip ?_
          refine JE_seq ?_
          refine JC_seq ?_
          refine JC_region ?_
          refine JL_dt rfl (det_loadKA rfl Try.isAgg24 Try.sizeOf24 rfl rfl) ?_
          refine JL_step rfl rfl rfl (jo_call rfl rfl Try.call19 rfl (lHouse_j ⟨⟨x.h.lanes, L⟩, va, vc⟩ (Nat.le_trans (Nat.le_of_eq hLl) (by decide)))) fun x122 => ?_
          refine JL_pd rfl (det_move rfl) ?_
          refine JL_step rfl rfl rfl (jo_call rfl rfl Try.call20 rfl (lGroups_j ga gc xs (by omega) (fun z hz => by have := t3 z.g (List.mem_map.2 ⟨z, hz, rfl⟩); omega))) fun x124 => ?_
          refine JL_pd rfl (det_move rfl) ?_
          refine JL_step rfl rfl rfl (jo_call rfl rfl Try.call23 rfl (lList_j plan a cap (by omega))) fun x126 => ?_
          -- stop: op  6 t127 := (call (Call (value f38) (t122 t124 t126) (30 32 22)))   <1 3 5 5>   254
          by_cases c2 : plannedE ⟨x.h.lanes, L⟩ (gs xs) plan = 0
          · have hsc := fun (q : QH) (g : QG xs) (p : QH) => Short_c ⟨⟨x.h.lanes, L⟩, va, vc⟩ q xs g plan p.1 p.2 c2
            simp only [hshV] at hsc
            refine JL_step rfl rfl rfl (jo_call rfl rfl Try.call38 rfl (hsc x122 x124 x126)) fun sq => ?_
            refine JL_pd rfl (det_move rfl) ?_
            refine JL_pd rfl (det_extract rfl rfl) ?_
            refine JL_pd rfl (det_extract rfl rfl) ?_
            refine JL_pd rfl (det_assign rfl) ?_
            refine JL_pd rfl (det_assign rfl) ?_
            refine JL_nil ?_
            refine JE_seq ?_
            refine JC_seq ?_
            refine JC_region ?_
            refine JL_pd rfl (det_move rfl) ?_
            refine JL_dt rfl (det_loadKA rfl Try.isAgg24 Try.sizeOf24 rfl rfl) ?_
            refine JL_pd rfl (det_move rfl) ?_
            refine JL_pd rfl (det_move rfl) ?_
            refine JL_step rfl rfl rfl (jo_callv rfl rfl Try.call25 rfl (planned_jl ⟨⟨x.h.lanes, L⟩, va, vc⟩ ga gc xs a cap plan)) fun _ => ?_
            refine JL_pd rfl (det_eql rfl rfl) ?_
            refine JL_pd rfl (det_move rfl) ?_
            -- stop: guard 6
            refine JL_is (d0 := 136) true rfl (by (first | rfl | exact decide_eq_true c2.symm | (rw [c2]; rfl))) (fun h5 => ?_)
            refine JL_guard rfl rfl h5 ?_
            refine JL_pd rfl (det_move rfl) ?_
            refine JL_guard rfl rfl h5 ?_
            refine JL_pd rfl (det_len rfl Try.runUnderlying22) ?_
            refine JL_guard rfl rfl h5 ?_
            refine JL_pd rfl (det_eql rfl rfl) ?_
            refine JL_pd rfl (det_pick_t rfl h5 rfl) ?_
            refine JL_pd rfl (det_move rfl) ?_
            refine JL_is (d0 := 141) true rfl (by (first | rfl | exact decide_eq_true c2.symm | (rw [c2]; rfl))) (fun h6 => ?_)
            refine JL_guard rfl rfl h6 ?_
            refine JL_step rfl rfl rfl (jo_callv rfl rfl Try.call17 rfl (awake_j)) fun _ => ?_
            refine JL_pd rfl (det_pick_t rfl h6 rfl) ?_
            refine JL_pd rfl (det_assign rfl) ?_
            refine JL_nil ?_
            refine JE_seq ?_
            refine JC_ret ?_
            refine JE_out (.inl rfl) () (results1 Try.results12 (res_tmp rfl)) ?_ (List.Perm.refl _) (fun _ _ => trivial)
            rfl
          · skip
            refine JL_step rfl rfl rfl (jo_callv rfl rfl Try.call38 rfl (Short_ce ⟨⟨x.h.lanes, L⟩, va, vc⟩ x122 xs x124 plan x126.1 x126.2 c2)) fun _ => ?_
            refine JL_pd rfl (det_move rfl) ?_
            refine JL_pd rfl (det_extract rfl rfl) ?_
            refine JL_pd rfl (det_extract rfl rfl) ?_
            refine JL_pd rfl (det_assign rfl) ?_
            refine JL_pd rfl (det_assign rfl) ?_
            refine JL_nil ?_
            refine JE_seq ?_
            refine JC_seq ?_
            refine JC_region ?_
            refine JL_pd rfl (det_move rfl) ?_
            refine JL_dt rfl (det_loadKA rfl Try.isAgg24 Try.sizeOf24 rfl rfl) ?_
            refine JL_pd rfl (det_move rfl) ?_
            refine JL_pd rfl (det_move rfl) ?_
            refine JL_step rfl rfl rfl (jo_callv rfl rfl Try.call25 rfl (planned_jl ⟨⟨x.h.lanes, L⟩, va, vc⟩ ga gc xs a cap plan)) fun _ => ?_
            refine JL_pd rfl (det_eql rfl rfl) ?_
            refine JL_pd rfl (det_move rfl) ?_
            -- stop: guard 6
            refine JL_is (d0 := 136) true rfl (by (first | rfl | simp)) (fun h7 => ?_)
            refine JL_guard rfl rfl h7 ?_
            refine JL_pd rfl (det_move rfl) ?_
            refine JL_guard rfl rfl h7 ?_
            refine JL_pd rfl (det_len rfl Try.runUnderlying22) ?_
            refine JL_guard rfl rfl h7 ?_
            refine JL_pd rfl (det_eql rfl rfl) ?_
            refine JL_pd rfl (det_pick_t rfl h7 rfl) ?_
            refine JL_pd rfl (det_move rfl) ?_
            refine JL_is (d0 := 141) true rfl (by (first | rfl | simp)) (fun h8 => ?_)
            refine JL_guard rfl rfl h8 ?_
            refine JL_step rfl rfl rfl (jo_callv rfl rfl Try.call17 rfl (awake_j)) fun _ => ?_
            refine JL_pd rfl (det_pick_t rfl h8 rfl) ?_
            refine JL_pd rfl (det_assign rfl) ?_
            refine JL_nil ?_
            refine JE_seq ?_
            refine JC_ret ?_
            refine JE_out (.inl rfl) () (results1 Try.results12 (res_tmp rfl)) ?_ (List.Perm.refl _) (fun _ _ => trivial)
            rfl
end Go.Proofs.Ytkmaafnbefpdjaa

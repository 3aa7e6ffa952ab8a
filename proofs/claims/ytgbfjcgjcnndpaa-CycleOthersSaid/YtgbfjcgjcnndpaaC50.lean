/- The statements about cycle: CycleOthers. -/
import Derived.Test.YtgbfjcgjcnndpaaC49
import Derived.Test.YtgbfjcgjcnndpaaJ25
set_option linter.unusedSimpArgs false
set_option linter.unusedVariables false
namespace Go.Proofs.Ytgbfjcgjcnndpaa
open Go.RowKit Go.Shelf

/-- The names of the first states. -/
def nmC (f : Int → Int) (k : Nat) : List Value := (List.range 8).map fun j : Nat => I (if j < k then f (j : Int) else 0)
theorem nmC_len (f : Int → Int) (k : Nat) : (nmC f k).length = 8 := by unfold nmC; simp
theorem nmC_at (f : Int → Int) (k j : Nat) : (nmC f k)[j]? = if j < 8 then some (I (if j < k then f (j : Int) else 0)) else none := by
  unfold nmC
  rw [List.getElem?_map]
  by_cases h8 : j < 8
  · rw [List.getElem?_range h8, if_pos h8]; rfl
  · rw [List.getElem?_eq_none (by simpa using h8), if_neg h8]; rfl
theorem nmC_get (f : Int → Int) (k j : Nat) (hj : j < k) (h8 : j < 8) : (nmC f k)[j]? = some (I (f (j : Int))) := by
  rw [nmC_at, if_pos h8, if_pos hj]
theorem nmC_set (f : Int → Int) (k : Nat) (h8 : k < 8) : splice (nmC f k) k [I (f (k : Int))] = nmC f (k + 1) := by
  show (nmC f k).set k (I (f (k : Int))) = _
  refine List.ext_getElem? fun j => ?_
  rw [List.getElem?_set, nmC_at, nmC_at, nmC_len]
  by_cases e : k = j
  · subst e; rw [if_pos rfl, if_pos h8, if_pos h8, if_pos (by omega)]
  · rw [if_neg e]
    by_cases h : j < k
    · rw [if_pos h, if_pos (by omega : j < k + 1)]
    · rw [if_neg h, if_neg (by omega : ¬ j < k + 1)]
theorem nmC_one (f : Int → Int) (h0 : f 0 = 0) : nmC f 1 = [I 0, I 0, I 0, I 0, I 0, I 0, I 0, I 0] := by
  show _ = (List.range 8).map fun _ : Nat => I 0
  unfold nmC
  refine List.map_congr_left fun j _ => ?_
  by_cases h : j < 1
  · rw [if_pos h, show ((j : Nat) : Int) = 0 by omega, h0]
  · rw [if_neg h]
theorem renR_succ (m : Mc) (f : Int → Int) (n : Nat) : renR m f (n + 1) = renR m f n ++ (if ((List.range m.states.toNat).any fun old : Nat => decide (f (old : Int) = (n : Int)) && decide ((old : Int) ∈ m.running)) = true then [(n : Int)] else []) := by
  unfold renR
  rw [List.range_succ, List.filter_append, List.map_append]
  congr 1
  rw [List.filter_cons, List.filter_nil]
  split <;> rfl
theorem renR_len (m : Mc) (f : Int → Int) (n : Nat) : (renR m f n).length ≤ n := by
  unfold renR; rw [List.length_map]; exact Nat.le_trans (List.length_filter_le _ _) (by simp)
theorem range_any_succ (p : Nat → Bool) (n : Nat) : (List.range (n + 1)).any p = ((List.range n).any p || p n) := by
  rw [List.range_succ, List.any_append, List.any_cons, List.any_nil, Bool.or_false]
set_option maxRecDepth 100000 in
set_option maxHeartbeats 4000000 in
theorem CycleOthers_j (m : Mc) (a : MA) (b : Int) (hb0 : 0 ≤ b) (hb1 : b ≤ 255) : Cv Try.prog 10 [.agg #[I m.states, .slice a.sa m.steps.length a.sc, .slice a.ra m.running.length a.rc, .slice a.ka m.locks.length a.kc], .int .u8 b] (KMc m a) (.bool true) := by
  refine Cx_of Try.func10 rfl Try.ntmps10 rfl fun w0 M0 => ?_
  refine JC_seq ?_
  refine JC_region ?_
  refine JL_step rfl rfl rfl (jo_box rfl rfl) fun b2 => ?_
  refine JL_pd rfl (det_assign rfl) ?_
  refine JL_nil ?_
  refine JE_seq ?_
  refine JC_seq ?_
  refine JC_seq ?_
  refine JC_region ?_
  refine JL_dt rfl (det_loadKA rfl Try.isAgg26 Try.sizeOf26 rfl rfl) ?_
  refine JL_step rfl rfl rfl (jo_callv rfl rfl Try.call38 rfl (ready_j m a)) fun _ => ?_
  refine JL_pd rfl (det_not rfl) ?_
  refine JL_pd rfl (det_move rfl) ?_
  -- stop: guard 3
  cases hr : readyB m with
  | false =>
    refine JL_is (d0 := 30) true rfl (by rfl) (fun g1 => ?_)
    refine JL_skip rfl rfl g1 rfl ?_
    refine JL_skip rfl rfl g1 rfl ?_
    refine JL_skip rfl rfl g1 rfl ?_
    refine JL_pd rfl (det_pick_t rfl g1 rfl) ?_
    refine JL_nil ?_
    refine JE_seq ?_
    -- stop: cond
    refine JC_cond rfl (fun h1 => ?_) (fun h1 => ?_)
    · refine JC_seq ?_
      refine JC_region ?_
      refine JL_step rfl rfl rfl (jo_callv rfl rfl Try.call18 rfl (wakes_j)) fun _ => ?_
      refine JL_pd rfl (det_assign rfl) ?_
      refine JL_nil ?_
      refine JE_seq ?_
      refine JC_ret ?_
      refine JE_seq_ret ?_
      -- stop: out
      refine JE_out (.inl rfl) () (results1 Try.results10 (res_tmp rfl)) rfl (List.Perm.refl _) (fun _ _ => trivial)
    · cases h1
  | true =>
    have he := ready_v hr
    have V := valid_of he
    have hl1 := V.ns; have hl2 := V.nl; have hl3 := V.nr; have s1 := V.s1; have s2 := V.s2
    refine JL_is (d0 := 30) false rfl (by rfl) (fun g1 => ?_)
    refine JL_guard rfl rfl g1 ?_
    refine JL_pd rfl (det_fieldAddr rfl fo_26_0) ?_
    refine JL_guard rfl rfl g1 ?_
    refine JL_dt rfl (det_loadK rfl Try.isAgg3 rfl) ?_
    refine JL_guard rfl rfl g1 ?_
    refine JL_pd rfl (det_lss rfl rfl) ?_
    refine JL_pd rfl (det_pick_f rfl g1 rfl) ?_
    refine JL_nil ?_
    refine JE_seq ?_
    -- stop: cond
    refine JC_cond rfl (fun h1 => ?_) (fun h1 => ?_)
    · refine JC_seq ?_
      refine JC_region ?_
      refine JL_step rfl rfl rfl (jo_callv rfl rfl Try.call18 rfl (wakes_j)) fun _ => ?_
      refine JL_pd rfl (det_assign rfl) ?_
      refine JL_nil ?_
      refine JE_seq ?_
      refine JC_ret ?_
      refine JE_seq_ret ?_
      -- stop: out
      refine JE_out (.inl rfl) () (results1 Try.results10 (res_tmp rfl)) rfl (List.Perm.refl _) (fun _ _ => trivial)
    · have h2 : 2 ≤ m.states := by have := of_decide_eq_false h1; omega
      obtain ⟨n, hn⟩ : ∃ n : Nat, m.states = (n : Int) := ⟨m.states.toNat, by omega⟩
      have hfd : ∀ s : Int, 1 ≤ s → nmF m.states b s = 1 + (s - 1 + b).tmod (m.states - 1) := fun s h => if_neg (by omega)
      have hR := ren_of he h2 hb0
      have hfz : nmF m.states b 0 = 0 := rfl
      generalize nmF m.states b = f at hfd hR hfz
      have hone := nmC_one f hfz
      refine JC_skip ?_
      refine JE_seq ?_
      refine JC_seq ?_
      refine JC_region ?_
      refine JL_step rfl rfl rfl (jo_alloc0 Try.zeroValue78 rfl) fun b5 => ?_
      refine JL_nil ?_
      refine JE_seq ?_
      refine JC_seq ?_
      refine JC_seq ?_
      refine JC_region ?_
      refine JL_pd rfl (det_assign rfl) ?_
      refine JL_nil ?_
      refine JE_seq ?_
      refine JC_block ?_
      -- stop: loop
      refine JC_keep b2 noFp ?_
      refine JC_loopF (γ := Nat) (fun s => 1 ≤ s ∧ s ≤ n) (fun s => [(6, I s)]) (fun s => [bx b5 (nmC f s)]) (fun s => n - s) 1 ⟨by omega, by omega⟩ (stsub_consI rfl rfl stsub_nil) (ht_bx hone.symm ht_nil) ?_
      rintro s ⟨hs1, hs2⟩ K hK
      dsimp only [List.cons_append, List.nil_append] at hs1 hs2 ⊢
      have hfs := hfd (s : Int) (by omega)
      refine JC_seq ?_
      refine JC_seq ?_
      refine JC_region ?_
      refine JL_pd rfl (det_move rfl) ?_
      refine JL_pd rfl (det_fieldAddr rfl fo_26_0) ?_
      refine JL_dt rfl (det_loadK rfl Try.isAgg3 rfl) ?_
      refine JL_pd rfl (det_lss rfl rfl) ?_
      refine JL_nil ?_
      refine JE_seq ?_
      -- stop: cond
      refine JC_if rfl (fun h3 => ?_) (fun h3 => ?_)
      · have hs3 : s < n := by omega
        have hmod : 0 ≤ ((s : Int) - 1 + b).tmod (m.states - 1) ∧ ((s : Int) - 1 + b).tmod (m.states - 1) < m.states - 1 := by
          rw [Int.tmod_eq_emod_of_nonneg (by omega)]
          exact ⟨Int.emod_nonneg _ (by omega), Int.emod_lt_of_pos _ (by omega)⟩
        refine JC_skip ?_
        refine JE_seq ?_
        refine JC_seq ?_
        refine JC_block ?_
        refine JC_region ?_
        refine JL_pd rfl (det_move rfl) ?_
        refine JL_pd rfl (det_move rfl) ?_
        refine JL_pd rfl (det_sub rfl rfl ⟨by omega, by omega⟩) ?_
        refine JL_pd rfl (det_move rfl) ?_
        refine JL_pd rfl (det_convI rfl Try.runUnderlying5 Try.runUnderlying3 (i64_wrap ⟨by omega, by omega⟩)) ?_
        refine JL_pd rfl (det_add rfl rfl ⟨by omega, by omega⟩) ?_
        refine JL_pd rfl (det_fieldAddr rfl fo_26_0) ?_
        refine JL_dt rfl (det_loadK rfl Try.isAgg3 rfl) ?_
        refine JL_pd rfl (det_sub rfl rfl ⟨by omega, by omega⟩) ?_
        refine JL_pd rfl (det_rem rfl rfl (by omega)) ?_
        refine JL_pd rfl (det_add rfl rfl ⟨by omega, by omega⟩) ?_
        refine JL_pd rfl (det_indexArr (i := s) rfl rfl (by omega) (by omega) Try.runUnderlying78 Try.sizeOf3) ?_
        refine JL_step0 rfl rfl (jo_store (vs := [I (1 + ((s : Int) - 1 + b).tmod (m.states - 1))]) (cs := nmC f s) (cs' := nmC f (s + 1)) rfl rfl rfl (by rw [show 0 + s * 1 = s by omega, ← hfs]; exact nmC_set f s (by omega)) Try.sizeOf3 (Nat.ble_eq_true_of_le (by rw [nmC_len]; show 0 + s * 1 + 1 ≤ 8; omega)) rfl) fun _ => ?_
        refine JL_nil ?_
        refine JE_block ?_
        refine JE_seq ?_
        refine JC_region ?_
        refine JL_pd rfl (det_move rfl) ?_
        refine JL_pd rfl (det_add rfl rfl ⟨by omega, by omega⟩) ?_
        refine JL_pd rfl (det_assign rfl) ?_
        refine JL_nil ?_
        -- stop: end
        refine JE_roundF hK (s + 1) ⟨by omega, by omega⟩ (by omega) (stsub_consI rfl (by omega) stsub_nil) (ht_cons ht_nil)
      · obtain rfl : s = n := by omega
        refine JC_keep b5 noFp ?_
        refine JC_exit ?_
        refine JE_seq_exit ?_
        refine JE_then_exit ?_
        refine JE_block_here ?_
        refine JE_seq ?_
        refine JC_seq ?_
        refine JC_region ?_
        refine JL_pd rfl (det_fieldAddr rfl fo_26_0) ?_
        refine JL_dt rfl (det_loadK rfl Try.isAgg3 rfl) ?_
        refine JL_pd rfl (det_build rfl (bld_26_0 _)) ?_
        refine JL_step rfl rfl rfl (jo_alloc0 Try.zeroValue26 rfl) fun b7 => ?_
        refine JL_step0 rfl rfl (jo_store rfl rfl rfl (by first | (simp only [splice_norm]; done) | (simp only [splice_norm]; rfl) | rfl) Try.sizeOf26 rfl rfl) fun _ => ?_
        refine JL_nil ?_
        refine JE_seq ?_
        refine JC_seq ?_
        refine JC_seq ?_
        refine JC_region ?_
        refine JL_pd rfl (det_assign rfl) ?_
        refine JL_nil ?_
        refine JE_seq ?_
        refine JC_block ?_
        -- stop: loop
        refine JC_nil 70 3 ?_
        refine JC_loopF (γ := Nat × Value) (fun q => q.1 ≤ m.steps.length) (fun q => [(8, I q.1)]) (fun q => [bx b7 [I m.states, q.2, .slice none 0 0, .slice none 0 0], ow q.2 70 3 ((m.steps.take q.1).map (fSp f)).length (((m.steps.take q.1).map (fSp f)).flatMap encSp)]) (fun q => m.steps.length - q.1) (0, .slice none 0 0) (Nat.zero_le _) (stsub_consI rfl rfl stsub_nil) (ht_bx rfl (ht_ow rfl rfl ht_nil)) ?_
        rintro ⟨i, v⟩ hi K2 hK2
        dsimp only [List.cons_append, List.nil_append] at hi ⊢
        have hln : ((m.steps.take i).map (fSp f)).length = i := by rw [List.length_map, List.length_take]; omega
        refine JC_seq ?_
        refine JC_seq ?_
        refine JC_region ?_
        refine JL_pd rfl (det_move rfl) ?_
        refine JL_pd rfl (det_fieldAddr rfl fo_26_1) ?_
        refine JL_dt rfl (det_loadK rfl Try.isAgg22 rfl) ?_
        refine JL_pd rfl (det_len rfl Try.runUnderlying22) ?_
        refine JL_pd rfl (det_lss rfl rfl) ?_
        refine JL_nil ?_
        refine JE_seq ?_
        -- stop: cond
        refine JC_if rfl (fun h4 => ?_) (fun h4 => ?_)
        · have hi2 : i < m.steps.length := by omega
          have hsx := V.st _ (List.getElem_mem hi2)
          have htk : (m.steps.take (i + 1)).map (fSp f) = (m.steps.take i).map (fSp f) ++ [fSp f m.steps[i]] := by rw [take_snoc hi2, List.map_append]; rfl
          generalize hse : m.steps[i] = y at hsx htk
          obtain ⟨p1, p2, p3, p4, p5, p6⟩ := hsx
          have hg1 : (nmC f s)[0 + y.fr.toNat * 1]? = some (I (f y.fr)) := by rw [show 0 + y.fr.toNat * 1 = y.fr.toNat by omega, nmC_get f s _ (by omega) (by omega), show ((y.fr.toNat : Nat) : Int) = y.fr by omega]
          have hg2 : (nmC f s)[0 + y.to_.toNat * 1]? = some (I (f y.to_)) := by rw [show 0 + y.to_.toNat * 1 = y.to_.toNat by omega, nmC_get f s _ (by omega) (by omega), show ((y.to_.toNat : Nat) : Int) = y.to_ by omega]
          refine JC_skip ?_
          refine JE_seq ?_
          refine JC_seq ?_
          refine JC_block ?_
          refine JC_seq ?_
          refine JC_region ?_
          refine JL_pd rfl (det_fieldAddr rfl fo_26_1) ?_
          refine JL_dt rfl (det_loadK rfl Try.isAgg22 rfl) ?_
          refine JL_pd rfl (det_move rfl) ?_
          refine JL_dt rfl (det_indexAddr rfl rfl (by first | rfl | omega) (by first | assumption | omega | decide) Try.runUnderlying22 Try.sizeOf70) ?_
          refine JL_dt rfl (det_loadEA (vs := [I y.fr, I y.to_, I y.sg]) rfl (by first | assumption | omega | decide) Try.isAgg70 Try.sizeOf70 rfl (by rw [← hse]; rfl) rfl) ?_
          refine JL_step rfl rfl rfl (jo_alloc0 Try.zeroValue70 rfl) fun b9 => ?_
          refine JL_step0 rfl rfl (jo_store rfl rfl rfl (by first | (simp only [splice_norm]; done) | (simp only [splice_norm]; rfl) | rfl) Try.sizeOf70 rfl rfl) fun _ => ?_
          refine JL_nil ?_
          refine JE_seq ?_
          refine JC_draw [14, 16] (by kernel_rfl) ?_
          refine JA_pd (i := 0) rfl (by kernel_rfl) rfl rfl (det_fieldAddr rfl fo_26_1) ?_
          refine JA_dt (i := 1) rfl (by kernel_rfl) (by kernel_rfl) rfl rfl (det_loadK rfl Try.isAgg22 rfl) ?_
          refine JA_pd (i := 2) rfl (by kernel_rfl) rfl rfl (det_fieldAddr rfl fo_70_0) ?_
          refine JA_dt (i := 3) rfl (by kernel_rfl) (by kernel_rfl) rfl rfl (det_loadK rfl Try.isAgg3 rfl) ?_
          refine JA_pd (i := 4) rfl (by kernel_rfl) rfl rfl (det_indexArr (i := y.fr.toNat) rfl rfl (by omega) (by omega) Try.runUnderlying78 Try.sizeOf3) ?_
          refine JA_dt (i := 5) rfl (by kernel_rfl) (by kernel_rfl) rfl rfl (det_loadK (v := I (f y.fr)) rfl Try.isAgg3 hg1) ?_
          refine JA_pd (i := 6) rfl (by kernel_rfl) rfl rfl (det_fieldAddr rfl fo_70_1) ?_
          refine JA_dt (i := 7) rfl (by kernel_rfl) (by kernel_rfl) rfl rfl (det_loadK rfl Try.isAgg3 rfl) ?_
          refine JA_pd (i := 8) rfl (by kernel_rfl) rfl rfl (det_indexArr (i := y.to_.toNat) rfl rfl (by omega) (by omega) Try.runUnderlying78 Try.sizeOf3) ?_
          refine JA_dt (i := 9) rfl (by kernel_rfl) (by kernel_rfl) rfl rfl (det_loadK (v := I (f y.to_)) rfl Try.isAgg3 hg2) ?_
          refine JA_pd (i := 10) rfl (by kernel_rfl) rfl rfl (det_fieldAddr rfl fo_70_2) ?_
          refine JA_dt (i := 11) rfl (by kernel_rfl) (by kernel_rfl) rfl rfl (det_loadK rfl Try.isAgg3 rfl) ?_
          refine JA_pd (i := 12) rfl (by kernel_rfl) rfl rfl (det_build rfl (bld_70_0_1_2 _ _ _)) ?_
          refine JA_one (i := 13) (by kernel_rfl) rfl rfl (jo_buildSlice rfl (bsl_22_1_0 _ _ _)) (fun _ => ⟨hsub_drop 1 rfl, fun _ h => h⟩) fun b82 => ?_
          refine JA_tail (i := 14) (by kernel_rfl) rfl rfl rfl rfl (jo_append el_22 rfl rfl rfl rfl (by omega)) fun b83 => ?_
          refine JT_pd (i := 15) rfl (by kernel_rfl) rfl rfl (det_fieldAddr rfl fo_26_1) ?_
          refine JT_one (i := 16) (by kernel_rfl) rfl rfl (jo_store rfl rfl rfl (by first | (simp only [splice_norm]; done) | (simp only [splice_norm]; rfl) | rfl) Try.sizeOf22 rfl rfl) fun _ => ?_
          refine JT_done (by kernel_rfl) ?_
          refine JE_block ?_
          refine JE_seq ?_
          refine JC_region ?_
          refine JL_pd rfl (det_move rfl) ?_
          refine JL_pd rfl (det_add rfl rfl ⟨by omega, by omega⟩) ?_
          refine JL_pd rfl (det_assign rfl) ?_
          refine JL_nil ?_
          -- stop: end
          refine JE_roundF hK2 (i + 1, .slice (some ⟨b83.1, 0, none⟩) (((m.steps.take i).map (fSp f)).length + 1) b83.2) (by simp only; omega) (by simp only; omega) (stsub_consI rfl (by simp only; omega) stsub_nil) (ht_bx rfl (ht_ow (by simp only; rw [htk]; simp) (by simp only; rw [htk, List.flatMap_append]; rfl) ht_nil))
        · obtain rfl : i = m.steps.length := by omega
          rw [List.take_length] at hln
          rw [List.take_length]
          refine JC_slice (enc := encSp) (v := v) (m.steps.map (fSp f)) noFp rfl rfl ?_
          rintro sa2 sc2 rfl
          refine JC_exit ?_
          refine JE_seq_exit ?_
          refine JE_then_exit ?_
          refine JE_block_here ?_
          refine JE_seq ?_
          refine JC_seq ?_
          refine JC_seq ?_
          refine JC_region ?_
          refine JL_pd rfl (det_assign rfl) ?_
          refine JL_nil ?_
          refine JE_seq ?_
          refine JC_block ?_
          -- stop: loop
          refine JC_nil 3 1 ?_
          refine JC_loopF (γ := Nat × Value) (fun q => q.1 ≤ s) (fun q => [(10, I q.1)]) (fun q => [bx b7 [I m.states, .slice sa2 (m.steps.map (fSp f)).length sc2, q.2, .slice none 0 0], ow q.2 3 1 (renR m f q.1).length ((renR m f q.1).flatMap encI)]) (fun q => s - q.1) (0, .slice none 0 0) (Nat.zero_le _) (stsub_consI rfl rfl stsub_nil) (ht_bx rfl (ht_ow rfl rfl ht_nil)) ?_
          rintro ⟨t, v⟩ ht K3 hK3
          dsimp only [List.cons_append, List.nil_append] at ht ⊢
          have hsc := renR_succ m f t
          have hrl := renR_len m f t
          refine JC_seq ?_
          refine JC_seq ?_
          refine JC_region ?_
          refine JL_pd rfl (det_move rfl) ?_
          refine JL_pd rfl (det_fieldAddr rfl fo_26_0) ?_
          refine JL_dt rfl (det_loadK rfl Try.isAgg3 rfl) ?_
          refine JL_pd rfl (det_lss rfl rfl) ?_
          refine JL_nil ?_
          refine JE_seq ?_
          -- stop: cond
          refine JC_if rfl (fun h5 => ?_) (fun h5 => ?_)
          · have ht2 : t < s := by omega
            refine JC_skip ?_
            refine JE_seq ?_
            refine JC_seq ?_
            refine JC_block ?_
            refine JC_seq ?_
            refine JC_region ?_
            refine JL_pd rfl (det_assign rfl) ?_
            refine JL_nil ?_
            refine JE_seq ?_
            refine JC_block ?_
            -- stop: loop
            refine JC_loopF (γ := Nat × Value) (fun q => q.1 ≤ s) (fun q => [(11, I q.1)]) (fun q => [bx b7 [I m.states, .slice sa2 (m.steps.map (fSp f)).length sc2, q.2, .slice none 0 0], ow q.2 3 1 (renR m f t ++ (if ((List.range q.1).any fun old : Nat => decide (f (old : Int) = (t : Int)) && decide ((old : Int) ∈ m.running)) = true then [(t : Int)] else [])).length ((renR m f t ++ (if ((List.range q.1).any fun old : Nat => decide (f (old : Int) = (t : Int)) && decide ((old : Int) ∈ m.running)) = true then [(t : Int)] else [])).flatMap encI)]) (fun q => s - q.1) (0, v) (Nat.zero_le _) (stsub_consI rfl rfl stsub_nil) (ht_bx rfl (ht_ow (by simp) (by simp) ht_nil)) ?_
            rintro ⟨o, u⟩ ho K4 hK4
            dsimp only [List.cons_append, List.nil_append] at ho ⊢
            have hlA : (renR m f t ++ (if ((List.range o).any fun old : Nat => decide (f (old : Int) = (t : Int)) && decide ((old : Int) ∈ m.running)) = true then [(t : Int)] else [])).length ≤ t + 1 := by
              have h1 : (if ((List.range o).any fun old : Nat => decide (f (old : Int) = (t : Int)) && decide ((old : Int) ∈ m.running)) = true then [(t : Int)] else []).length ≤ 1 := by split <;> simp
              rw [List.length_append]; omega
            have hany := range_any_succ (fun old : Nat => decide (f (old : Int) = (t : Int)) && decide ((old : Int) ∈ m.running)) o
            refine JC_seq ?_
            refine JC_seq ?_
            refine JC_region ?_
            refine JL_pd rfl (det_move rfl) ?_
            refine JL_pd rfl (det_fieldAddr rfl fo_26_0) ?_
            refine JL_dt rfl (det_loadK rfl Try.isAgg3 rfl) ?_
            refine JL_pd rfl (det_lss rfl rfl) ?_
            refine JL_nil ?_
            refine JE_seq ?_
            -- stop: cond
            refine JC_if rfl (fun h6 => ?_) (fun h6 => ?_)
            · have ho2 : o < s := by omega
              have hg3 : (nmC f s)[0 + o * 1]? = some (I (f (o : Int))) := by rw [show 0 + o * 1 = o by omega, nmC_get f s _ (by omega) (by omega)]
              refine JC_skip ?_
              refine JE_seq ?_
              refine JC_seq ?_
              refine JC_block ?_
              refine JC_seq ?_
              refine JC_region ?_
              refine JL_pd rfl (det_move rfl) ?_
              refine JL_pd rfl (det_indexArr (i := o) rfl rfl (by omega) (by omega) Try.runUnderlying78 Try.sizeOf3) ?_
              refine JL_dt rfl (det_loadK (v := I (f (o : Int))) rfl Try.isAgg3 hg3) ?_
              refine JL_pd rfl (det_move rfl) ?_
              refine JL_pd rfl (det_eql rfl rfl) ?_
              refine JL_pd rfl (det_move rfl) ?_
              -- stop: guard 5
              refine JL_split (d0 := 102) rfl (fun k1 => ?_) (fun k1 => ?_)
              · refine JL_guard rfl rfl k1 ?_
                refine JL_dt rfl (det_loadKA rfl Try.isAgg26 Try.sizeOf26 rfl rfl) ?_
                refine JL_guard rfl rfl k1 ?_
                refine JL_pd rfl (det_move rfl) ?_
                refine JL_guard rfl rfl k1 ?_
                refine JL_step rfl rfl rfl (jo_callv rfl rfl Try.call39 rfl (Runs_j m a _ (by omega))) fun _ => ?_
                refine JL_pd rfl (det_pick_t rfl k1 rfl) ?_
                refine JL_nil ?_
                refine JE_seq ?_
                -- stop: cond
                refine JC_cond rfl (fun k2 => ?_) (fun k2 => ?_)
                · have hpo : (decide (f (o : Int) = (t : Int)) && decide ((o : Int) ∈ m.running)) = true := by rw [k1, k2]; rfl
                  have hno : ((List.range o).any fun old : Nat => decide (f (old : Int) = (t : Int)) && decide ((old : Int) ∈ m.running)) = false := by
                    cases hA : (List.range o).any fun old : Nat => decide (f (old : Int) = (t : Int)) && decide ((old : Int) ∈ m.running) with
                    | false => rfl
                    | true =>
                      obtain ⟨p, h7, h8⟩ := List.any_eq_true.1 hA
                      have h7 := List.mem_range.1 h7
                      rw [Bool.and_eq_true] at h8
                      have e1 := of_decide_eq_true h8.1
                      have e2 := of_decide_eq_true k1
                      have := hR.inj (p : Int) (o : Int) (by omega) (by omega) (by omega) (by omega) (e1.trans e2.symm)
                      omega
                  rw [hpo, Bool.or_true] at hany
                  refine JC_region ?_
                  refine JL_pd rfl (det_fieldAddr rfl fo_26_2) ?_
                  refine JL_dt rfl (det_loadK rfl Try.isAgg23 rfl) ?_
                  refine JL_pd rfl (det_move rfl) ?_
                  refine JL_step rfl rfl rfl (jo_buildSlice rfl (bsl_23_1_0 _)) fun b110 => ?_
                  refine JL_step rfl rfl rfl (jo_append el_23 rfl rfl rfl rfl (by omega)) fun b111 => ?_
                  refine JL_pd rfl (det_fieldAddr rfl fo_26_2) ?_
                  refine JL_step0 rfl rfl (jo_store rfl rfl rfl (by first | (simp only [splice_norm]; done) | (simp only [splice_norm]; rfl) | rfl) Try.sizeOf23 rfl rfl) fun _ => ?_
                  refine JL_nil ?_
                  refine JE_block ?_
                  refine JE_seq ?_
                  refine JC_region ?_
                  refine JL_pd rfl (det_move rfl) ?_
                  refine JL_pd rfl (det_add rfl rfl ⟨by omega, by omega⟩) ?_
                  refine JL_pd rfl (det_assign rfl) ?_
                  refine JL_nil ?_
                  -- stop: end
                  refine JE_roundF hK4 (o + 1, .slice (some ⟨b111.1, 0, none⟩) ((renR m f t).length + 1) b111.2) (by simp only; omega) (by simp only; omega) (stsub_consI rfl (by simp only; omega) stsub_nil) (ht_bx (by simp [hno]) (ht_owS (v := .slice (some ⟨b111.1, 0, none⟩) ((renR m f t ++ (if ((List.range o).any fun old : Nat => decide (f (old : Int) = (t : Int)) && decide ((old : Int) ∈ m.running)) = true then [(t : Int)] else [])).length + 1) b111.2) (by simp [hno]) (by simp only; rw [hany, hno]; simp) (by simp only; rw [hany, hno]; simp [encI]) ht_nil))
                · have hpo : (decide (f (o : Int) = (t : Int)) && decide ((o : Int) ∈ m.running)) = false := by rw [k2, Bool.and_false]
                  rw [hpo, Bool.or_false] at hany
                  refine JC_skip ?_
                  refine JE_block ?_
                  refine JE_seq ?_
                  refine JC_region ?_
                  refine JL_pd rfl (det_move rfl) ?_
                  refine JL_pd rfl (det_add rfl rfl ⟨by omega, by omega⟩) ?_
                  refine JL_pd rfl (det_assign rfl) ?_
                  refine JL_nil ?_
                  -- stop: end
                  refine JE_roundF hK4 (o + 1, u) (by simp only; omega) (by simp only; omega) (stsub_consI rfl (by simp only; omega) stsub_nil) (ht_cons (ht_ow (by simp only; rw [hany]) (by simp only; rw [hany]) ht_nil))
              · have hpo : (decide (f (o : Int) = (t : Int)) && decide ((o : Int) ∈ m.running)) = false := by rw [k1, Bool.false_and]
                rw [hpo, Bool.or_false] at hany
                refine JL_skip rfl rfl k1 rfl ?_
                refine JL_skip rfl rfl k1 rfl ?_
                refine JL_skip rfl rfl k1 rfl ?_
                refine JL_pd rfl (det_pick_f rfl k1 rfl) ?_
                refine JL_nil ?_
                refine JE_seq ?_
                -- stop: cond
                refine JC_cond rfl (fun k2 => ?_) (fun k2 => ?_)
                · cases k2
                · refine JC_skip ?_
                  refine JE_block ?_
                  refine JE_seq ?_
                  refine JC_region ?_
                  refine JL_pd rfl (det_move rfl) ?_
                  refine JL_pd rfl (det_add rfl rfl ⟨by omega, by omega⟩) ?_
                  refine JL_pd rfl (det_assign rfl) ?_
                  refine JL_nil ?_
                  -- stop: end
                  refine JE_roundF hK4 (o + 1, u) (by simp only; omega) (by simp only; omega) (stsub_consI rfl (by simp only; omega) stsub_nil) (ht_cons (ht_ow (by simp only; rw [hany]) (by simp only; rw [hany]) ht_nil))
            · obtain rfl : o = s := by omega
              have hto : m.states.toNat = o := by omega
              rw [hto] at hsc
              refine JC_exit ?_
              refine JE_seq_exit ?_
              refine JE_then_exit ?_
              refine JE_block_here ?_
              refine JE_block ?_
              refine JE_seq ?_
              refine JC_region ?_
              refine JL_pd rfl (det_move rfl) ?_
              refine JL_pd rfl (det_add rfl rfl ⟨by omega, by omega⟩) ?_
              refine JL_pd rfl (det_assign rfl) ?_
              refine JL_nil ?_
              -- stop: end
              refine JE_roundF hK3 (t + 1, u) (by simp only; omega) (by simp only; omega) (stsub_consI rfl (by simp only; omega) stsub_nil) (ht_cons (ht_ow (by simp only; rw [hsc]) (by simp only; rw [hsc]) ht_nil))
          · obtain rfl : t = s := by omega
            refine JC_slice (enc := encI) (v := v) (renR m f t) noFp rfl rfl ?_
            rintro ra2 rc2 rfl
            refine JC_exit ?_
            refine JE_seq_exit ?_
            refine JE_then_exit ?_
            refine JE_block_here ?_
            refine JE_seq ?_
            refine JC_seq ?_
            refine JC_seq ?_
            refine JC_region ?_
            refine JL_pd rfl (det_assign rfl) ?_
            refine JL_nil ?_
            refine JE_seq ?_
            refine JC_block ?_
            -- stop: loop
            refine JC_nil 63 2 ?_
            refine JC_loopF (γ := Nat × Value) (fun q => q.1 ≤ m.locks.length) (fun q => [(12, I q.1)]) (fun q => [bx b7 [I m.states, .slice sa2 (m.steps.map (fSp f)).length sc2, .slice ra2 (renR m f t).length rc2, q.2], ow q.2 63 2 ((m.locks.take q.1).map (fLk f)).length (((m.locks.take q.1).map (fLk f)).flatMap encLk)]) (fun q => m.locks.length - q.1) (0, .slice none 0 0) (Nat.zero_le _) (stsub_consI rfl rfl stsub_nil) (ht_bx rfl (ht_ow rfl rfl ht_nil)) ?_
            rintro ⟨i, v⟩ hi K3 hK3
            dsimp only [List.cons_append, List.nil_append] at hi ⊢
            have hln2 : ((m.locks.take i).map (fLk f)).length = i := by rw [List.length_map, List.length_take]; omega
            refine JC_seq ?_
            refine JC_seq ?_
            refine JC_region ?_
            refine JL_pd rfl (det_move rfl) ?_
            refine JL_pd rfl (det_fieldAddr rfl fo_26_3) ?_
            refine JL_dt rfl (det_loadK rfl Try.isAgg24 rfl) ?_
            refine JL_pd rfl (det_len rfl Try.runUnderlying24) ?_
            refine JL_pd rfl (det_lss rfl rfl) ?_
            refine JL_nil ?_
            refine JE_seq ?_
            -- stop: cond
            refine JC_if rfl (fun h6 => ?_) (fun h6 => ?_)
            · have hi2 : i < m.locks.length := by omega
              have hok := V.lk _ (List.getElem_mem hi2)
              have htk : (m.locks.take (i + 1)).map (fLk f) = (m.locks.take i).map (fLk f) ++ [fLk f m.locks[i]] := by rw [take_snoc hi2, List.map_append]; rfl
              generalize hse : m.locks[i] = y at hok htk
              refine JC_skip ?_
              refine JE_seq ?_
              refine JC_seq ?_
              refine JC_block ?_
              refine JC_seq ?_
              refine JC_region ?_
              refine JL_pd rfl (det_fieldAddr rfl fo_26_3) ?_
              refine JL_dt rfl (det_loadK rfl Try.isAgg24 rfl) ?_
              refine JL_pd rfl (det_move rfl) ?_
              refine JL_dt rfl (det_indexAddr rfl rfl (by first | rfl | omega) (by first | assumption | omega | decide) Try.runUnderlying24 Try.sizeOf63) ?_
              refine JL_dt rfl (det_loadEA (vs := [I y.sg, I y.at_]) rfl (by first | assumption | omega | decide) Try.isAgg63 Try.sizeOf63 rfl (by rw [← hse]; rfl) rfl) ?_
              refine JL_step rfl rfl rfl (jo_alloc0 Try.zeroValue63 rfl) fun b13 => ?_
              refine JL_step0 rfl rfl (jo_store rfl rfl rfl (by first | (simp only [splice_norm]; done) | (simp only [splice_norm]; rfl) | rfl) Try.sizeOf63 rfl rfl) fun _ => ?_
              refine JL_nil ?_
              refine JE_seq ?_
              refine JC_seq ?_
              refine JC_seq ?_
              refine JC_region ?_
              refine JL_pd rfl (det_fieldAddr rfl fo_63_0) ?_
              refine JL_dt rfl (det_loadK rfl Try.isAgg3 rfl) ?_
              refine JL_pd rfl (det_gtr rfl rfl) ?_
              refine JL_nil ?_
              refine JE_seq ?_
              -- stop: cond
              refine JC_if rfl (fun h7 => ?_) (fun h7 => ?_)
              · have hat : 0 ≤ y.at_ ∧ y.at_ < m.states := by
                  unfold okLock inI at hok
                  split at hok
                  · have := of_decide_eq_true hok; omega
                  · simp only [Bool.and_eq_true, decide_eq_true_eq] at hok; omega
                have hfl : fLk f y = ⟨y.sg, f y.at_⟩ := if_pos h7
                rw [hfl] at htk
                have hg4 : (nmC f t)[0 + y.at_.toNat * 1]? = some (I (f y.at_)) := by rw [show 0 + y.at_.toNat * 1 = y.at_.toNat by omega, nmC_get f t _ (by omega) (by omega), show ((y.at_.toNat : Nat) : Int) = y.at_ by omega]
                refine JC_region ?_
                refine JL_pd rfl (det_fieldAddr rfl fo_63_1) ?_
                refine JL_dt rfl (det_loadK rfl Try.isAgg3 rfl) ?_
                refine JL_pd rfl (det_indexArr (i := y.at_.toNat) rfl rfl (by omega) (by omega) Try.runUnderlying78 Try.sizeOf3) ?_
                refine JL_dt rfl (det_loadK (v := I (f y.at_)) rfl Try.isAgg3 hg4) ?_
                refine JL_pd rfl (det_fieldAddr rfl fo_63_1) ?_
                refine JL_step0 rfl rfl (jo_store rfl rfl rfl (by first | (simp only [splice_norm]; done) | (simp only [splice_norm]; rfl) | rfl) Try.sizeOf3 rfl rfl) fun _ => ?_
                refine JL_nil ?_
                refine JE_seq ?_
                refine JC_region ?_
                refine JL_pd rfl (det_fieldAddr rfl fo_26_3) ?_
                refine JL_dt rfl (det_loadK rfl Try.isAgg24 rfl) ?_
                refine JL_dt rfl (det_loadKA rfl Try.isAgg63 Try.sizeOf63 rfl rfl) ?_
                refine JL_step rfl rfl rfl (jo_buildSlice rfl (bsl_24_1_0 _ _)) fun b136 => ?_
                refine JL_step rfl rfl rfl (jo_append el_24 rfl rfl rfl rfl (by omega)) fun b137 => ?_
                refine JL_pd rfl (det_fieldAddr rfl fo_26_3) ?_
                refine JL_step0 rfl rfl (jo_store rfl rfl rfl (by first | (simp only [splice_norm]; done) | (simp only [splice_norm]; rfl) | rfl) Try.sizeOf24 rfl rfl) fun _ => ?_
                refine JL_nil ?_
                refine JE_block ?_
                refine JE_seq ?_
                refine JC_region ?_
                refine JL_pd rfl (det_move rfl) ?_
                refine JL_pd rfl (det_add rfl rfl ⟨by omega, by omega⟩) ?_
                refine JL_pd rfl (det_assign rfl) ?_
                refine JL_nil ?_
                -- stop: end
                refine JE_roundF hK3 (i + 1, .slice (some ⟨b137.1, 0, none⟩) (((m.locks.take i).map (fLk f)).length + 1) b137.2) (by simp only; omega) (by simp only; omega) (stsub_consI rfl (by simp only; omega) stsub_nil) (ht_bx rfl (ht_ow (by simp only; rw [htk]; simp) (by simp only; rw [htk, List.flatMap_append]; rfl) ht_nil))
              · have hfl : fLk f y = y := if_neg h7
                rw [hfl] at htk
                refine JC_skip ?_
                refine JE_seq ?_
                refine JC_region ?_
                refine JL_pd rfl (det_fieldAddr rfl fo_26_3) ?_
                refine JL_dt rfl (det_loadK rfl Try.isAgg24 rfl) ?_
                refine JL_dt rfl (det_loadKA rfl Try.isAgg63 Try.sizeOf63 rfl rfl) ?_
                refine JL_step rfl rfl rfl (jo_buildSlice rfl (bsl_24_1_0 _ _)) fun b136 => ?_
                refine JL_step rfl rfl rfl (jo_append el_24 rfl rfl rfl rfl (by omega)) fun b137 => ?_
                refine JL_pd rfl (det_fieldAddr rfl fo_26_3) ?_
                refine JL_step0 rfl rfl (jo_store rfl rfl rfl (by first | (simp only [splice_norm]; done) | (simp only [splice_norm]; rfl) | rfl) Try.sizeOf24 rfl rfl) fun _ => ?_
                refine JL_nil ?_
                refine JE_block ?_
                refine JE_seq ?_
                refine JC_region ?_
                refine JL_pd rfl (det_move rfl) ?_
                refine JL_pd rfl (det_add rfl rfl ⟨by omega, by omega⟩) ?_
                refine JL_pd rfl (det_assign rfl) ?_
                refine JL_nil ?_
                -- stop: end
                refine JE_roundF hK3 (i + 1, .slice (some ⟨b137.1, 0, none⟩) (((m.locks.take i).map (fLk f)).length + 1) b137.2) (by simp only; omega) (by simp only; omega) (stsub_consI rfl (by simp only; omega) stsub_nil) (ht_bx rfl (ht_ow (by simp only; rw [htk]; simp) (by simp only; rw [htk, List.flatMap_append]; rfl) ht_nil))
            · obtain rfl : i = m.locks.length := by omega
              rw [List.take_length]
              refine JC_slice (enc := encLk) (v := v) (m.locks.map (fLk f)) noFp rfl rfl ?_
              rintro ka2 kc2 rfl
              refine JC_keep b7 noFp ?_
              have hto : m.states.toNat = t := by omega
              have hX : (⟨m.states, m.steps.map (fSp f), renR m f t, m.locks.map (fLk f)⟩ : Mc) = renM m f := by rw [← hto]
              rw [← hX] at hR
              obtain ⟨h11, h12⟩ := hR.reach
              obtain ⟨h13, h14⟩ := hR.far
              obtain ⟨h15, h16⟩ := hR.few
              have hvx := hR.vx
              have hVx := valid_of hvx
              have p1 := hVx.ns; have p2 := hVx.nl; have p3 := hVx.nr
              generalize hxd : (⟨m.states, m.steps.map (fSp f), renR m f t, m.locks.map (fLk f)⟩ : Mc) = x at hR h11 h12 h13 h14 h15 h16 hvx hVx p1 p2 p3
              have q1 := fun b : MA => Stands_jo m b he
              have q2 := fun b : MA => Stands_jo x b hvx
              have q3 := fun b : MA => Danger_j m b
              have q4 := fun b : MA => Danger_j x b
              have q5 := fun b : MA => Locks_jo m b he
              have q6 := fun b : MA => Locks_jo x b hvx
              have hM1 := Machine_j m a (by omega) (by omega) (by omega)
              have hM2 := Machine_j x ⟨sa2, ra2, ka2, sc2, rc2, kc2⟩ (by omega) (by omega) (by omega)
              have r1 := reach_len m m.locks
              have r2 := reach_len x x.locks
              have hin : ∀ s ∈ reachL m m.locks, InM m s := fun s hs => ((mem_reachL V).1 hs).inM V
              generalize reachL m m.locks = L1 at h11 h12 q1 r1 hin
              generalize reachL x x.locks = L2 at h11 h12 q2 r2
              generalize dangRes m = D1 at h13 h14 q3
              generalize dangRes x = D2 at h13 h14 q4
              generalize locksR m = R1 at h16 q5
              generalize locksR x = R2 at h16 q6
              generalize locksE m = E1 at h15 q5
              generalize locksE x = E2 at h15 q6
              subst hxd
              refine JC_exit ?_
              refine JE_seq_exit ?_
              refine JE_then_exit ?_
              refine JE_block_here ?_
              refine JE_seq ?_
              refine JC_seq ?_
              refine JC_region ?_
              refine JL_dt rfl (det_loadKA rfl Try.isAgg26 Try.sizeOf26 rfl rfl) ?_
              -- stop: op  1 t141 := (call (Call (value f20) (t140) (26)))   <0>   337
              refine JL_step rfl rfl rfl (jo_call rfl rfl Try.call20 rfl (hM1)) fun y1 => ?_
              -- stop: op  2 t142 := (call (Call (value f21) (t141) (34)))   <1 1>   337
              refine JL_step rfl rfl rfl (jo_call rfl rfl Try.call21 rfl (q1 y1)) fun ⟨la1, lc1⟩ => ?_
              refine JL_pd rfl (det_move rfl) ?_
              refine JL_pd rfl (det_extract rfl rfl) ?_
              refine JL_pd rfl (det_extract rfl rfl) ?_
              refine JL_pd rfl (det_assign rfl) ?_
              refine JL_pd rfl (det_assign rfl) ?_
              refine JL_nil ?_
              refine JE_seq ?_
              refine JC_seq ?_
              refine JC_region ?_
              refine JL_dt rfl (det_loadKA rfl Try.isAgg26 Try.sizeOf26 rfl rfl) ?_
              -- stop: op  1 t147 := (call (Call (value f20) (t146) (26)))   <0>   338
              refine JL_step rfl rfl rfl (jo_call rfl rfl Try.call20 rfl (hM2)) fun y2 => ?_
              -- stop: op  2 t148 := (call (Call (value f21) (t147) (34)))   <1 1>   338
              refine JL_step rfl rfl rfl (jo_call rfl rfl Try.call21 rfl (q2 y2)) fun ⟨la2, lc2⟩ => ?_
              refine JL_pd rfl (det_move rfl) ?_
              refine JL_pd rfl (det_extract rfl rfl) ?_
              refine JL_pd rfl (det_extract rfl rfl) ?_
              refine JL_pd rfl (det_assign rfl) ?_
              refine JL_pd rfl (det_assign rfl) ?_
              refine JL_nil ?_
              refine JE_seq ?_
              refine JC_seq ?_
              refine JC_region ?_
              refine JL_dt rfl (det_loadKA rfl Try.isAgg26 Try.sizeOf26 rfl rfl) ?_
              -- stop: op  1 t153 := (call (Call (value f20) (t152) (26)))   <0>   339
              refine JL_step rfl rfl rfl (jo_call rfl rfl Try.call20 rfl (hM1)) fun y3 => ?_
              -- stop: op  2 t154 := (call (Call (value f26) (t153) (34)))   <1 1>   339
              refine JL_step rfl rfl rfl (jo_call rfl rfl Try.call26 rfl (q3 y3)) fun ⟨la3, lc3⟩ => ?_
              refine JL_pd rfl (det_move rfl) ?_
              refine JL_pd rfl (det_extract rfl rfl) ?_
              refine JL_pd rfl (det_extract rfl rfl) ?_
              refine JL_pd rfl (det_assign rfl) ?_
              refine JL_pd rfl (det_assign rfl) ?_
              refine JL_nil ?_
              refine JE_seq ?_
              refine JC_seq ?_
              refine JC_region ?_
              refine JL_dt rfl (det_loadKA rfl Try.isAgg26 Try.sizeOf26 rfl rfl) ?_
              -- stop: op  1 t159 := (call (Call (value f20) (t158) (26)))   <0>   340
              refine JL_step rfl rfl rfl (jo_call rfl rfl Try.call20 rfl (hM2)) fun y4 => ?_
              -- stop: op  2 t160 := (call (Call (value f26) (t159) (34)))   <1 1>   340
              refine JL_step rfl rfl rfl (jo_call rfl rfl Try.call26 rfl (q4 y4)) fun ⟨la4, lc4⟩ => ?_
              refine JL_pd rfl (det_move rfl) ?_
              refine JL_pd rfl (det_extract rfl rfl) ?_
              refine JL_pd rfl (det_extract rfl rfl) ?_
              refine JL_pd rfl (det_assign rfl) ?_
              refine JL_pd rfl (det_assign rfl) ?_
              refine JL_nil ?_
              refine JE_seq ?_
              refine JC_seq ?_
              refine JC_region ?_
              refine JL_dt rfl (det_loadKA rfl Try.isAgg26 Try.sizeOf26 rfl rfl) ?_
              -- stop: op  1 t165 := (call (Call (value f20) (t164) (26)))   <0>   341
              refine JL_step rfl rfl rfl (jo_call rfl rfl Try.call20 rfl (hM1)) fun y5 => ?_
              -- stop: op  2 t166 := (call (Call (value f32) (t165) (34)))   <1 1>   341
              refine JL_step rfl rfl rfl (jo_call rfl rfl Try.call32 rfl (q5 y5)) fun ⟨la5, lc5⟩ => ?_
              refine JL_pd rfl (det_move rfl) ?_
              refine JL_pd rfl (det_extract rfl rfl) ?_
              refine JL_pd rfl (det_extract rfl rfl) ?_
              refine JL_pd rfl (det_assign rfl) ?_
              refine JL_pd rfl (det_assign rfl) ?_
              refine JL_nil ?_
              refine JE_seq ?_
              refine JC_seq ?_
              refine JC_region ?_
              refine JL_dt rfl (det_loadKA rfl Try.isAgg26 Try.sizeOf26 rfl rfl) ?_
              -- stop: op  1 t171 := (call (Call (value f20) (t170) (26)))   <0>   342
              refine JL_step rfl rfl rfl (jo_call rfl rfl Try.call20 rfl (hM2)) fun y6 => ?_
              -- stop: op  2 t172 := (call (Call (value f32) (t171) (34)))   <1 1>   342
              refine JL_step rfl rfl rfl (jo_call rfl rfl Try.call32 rfl (q6 y6)) fun ⟨la6, lc6⟩ => ?_
              refine JL_pd rfl (det_move rfl) ?_
              refine JL_pd rfl (det_extract rfl rfl) ?_
              refine JL_pd rfl (det_extract rfl rfl) ?_
              refine JL_pd rfl (det_assign rfl) ?_
              refine JL_pd rfl (det_assign rfl) ?_
              refine JL_nil ?_
              refine JE_seq ?_
              refine JC_seq ?_
              refine JC_seq ?_
              refine JC_region ?_
              refine JL_pd rfl (det_move rfl) ?_
              refine JL_pd rfl (det_neq rfl rfl) ?_
              refine JL_pd rfl (det_move rfl) ?_
              -- stop: guard 2
              skip
              refine JL_is (d0 := 177) false rfl (by simp [h11, h13, h14, h15, h16]) (fun g1 => ?_)
              refine JL_guard rfl rfl g1 ?_
              refine JL_pd rfl (det_move rfl) ?_
              refine JL_guard rfl rfl g1 ?_
              refine JL_pd rfl (det_neq rfl rfl) ?_
              refine JL_pd rfl (det_pick_f rfl g1 rfl) ?_
              refine JL_pd rfl (det_move rfl) ?_
              refine JL_is (d0 := 181) false rfl (by simp [h11, h13, h14, h15, h16]) (fun g2 => ?_)
              refine JL_guard rfl rfl g2 ?_
              refine JL_pd rfl (det_move rfl) ?_
              refine JL_guard rfl rfl g2 ?_
              refine JL_pd rfl (det_len rfl Try.runUnderlying36) ?_
              refine JL_guard rfl rfl g2 ?_
              refine JL_pd rfl (det_move rfl) ?_
              refine JL_guard rfl rfl g2 ?_
              refine JL_pd rfl (det_len rfl Try.runUnderlying36) ?_
              refine JL_guard rfl rfl g2 ?_
              refine JL_pd rfl (det_neq rfl rfl) ?_
              refine JL_pd rfl (det_pick_f rfl g2 rfl) ?_
              refine JL_pd rfl (det_move rfl) ?_
              refine JL_is (d0 := 188) false rfl (by simp [h11, h13, h14, h15, h16]) (fun g3 => ?_)
              refine JL_guard rfl rfl g3 ?_
              refine JL_pd rfl (det_move rfl) ?_
              refine JL_guard rfl rfl g3 ?_
              refine JL_pd rfl (det_move rfl) ?_
              refine JL_guard rfl rfl g3 ?_
              refine JL_pd rfl (det_neq rfl rfl) ?_
              refine JL_pd rfl (det_pick_f rfl g3 rfl) ?_
              refine JL_pd rfl (det_move rfl) ?_
              refine JL_is (d0 := 193) false rfl (by simp [h11, h13, h14, h15, h16]) (fun g4 => ?_)
              refine JL_guard rfl rfl g4 ?_
              refine JL_pd rfl (det_move rfl) ?_
              refine JL_guard rfl rfl g4 ?_
              refine JL_pd rfl (det_len rfl Try.runUnderlying23) ?_
              refine JL_guard rfl rfl g4 ?_
              refine JL_pd rfl (det_move rfl) ?_
              refine JL_guard rfl rfl g4 ?_
              refine JL_pd rfl (det_len rfl Try.runUnderlying23) ?_
              refine JL_guard rfl rfl g4 ?_
              refine JL_pd rfl (det_neq rfl rfl) ?_
              refine JL_pd rfl (det_pick_f rfl g4 rfl) ?_
              refine JL_pd rfl (det_move rfl) ?_
              refine JL_is (d0 := 200) false rfl (by simp [h11, h13, h14, h15, h16]) (fun g5 => ?_)
              refine JL_guard rfl rfl g5 ?_
              refine JL_pd rfl (det_move rfl) ?_
              refine JL_guard rfl rfl g5 ?_
              refine JL_pd rfl (det_move rfl) ?_
              refine JL_guard rfl rfl g5 ?_
              refine JL_pd rfl (det_neq rfl rfl) ?_
              refine JL_pd rfl (det_pick_f rfl g5 rfl) ?_
              refine JL_pd rfl (det_move rfl) ?_
              refine JL_is (d0 := 205) false rfl (by simp [h11, h13, h14, h15, h16]) (fun g6 => ?_)
              refine JL_guard rfl rfl g6 ?_
              refine JL_pd rfl (det_move rfl) ?_
              refine JL_guard rfl rfl g6 ?_
              refine JL_pd rfl (det_len rfl Try.runUnderlying32) ?_
              refine JL_guard rfl rfl g6 ?_
              refine JL_pd rfl (det_move rfl) ?_
              refine JL_guard rfl rfl g6 ?_
              refine JL_pd rfl (det_len rfl Try.runUnderlying32) ?_
              refine JL_guard rfl rfl g6 ?_
              refine JL_pd rfl (det_neq rfl rfl) ?_
              refine JL_pd rfl (det_pick_f rfl g6 rfl) ?_
              refine JL_nil ?_
              refine JE_seq ?_
              -- stop: cond
              refine JC_cond rfl (fun h7 => ?_) (fun h7 => ?_)
              · simp [h16] at h7
              · refine JC_skip ?_
                refine JE_seq ?_
                refine JC_seq ?_
                refine JC_seq ?_
                refine JC_region ?_
                refine JL_pd rfl (det_assign rfl) ?_
                refine JL_nil ?_
                refine JE_seq ?_
                refine JC_block ?_
                -- stop: loop
                refine JC_loopF (γ := Nat) (fun i => i ≤ L1.length) (fun i => [(26, I i)]) (fun _ => []) (fun i => L1.length - i) 0 (Nat.zero_le _) (stsub_consI rfl rfl stsub_nil) ht_nil ?_
                rintro i hi K4 hK4
                dsimp only [List.cons_append, List.nil_append] at hi ⊢
                refine JC_seq ?_
                refine JC_seq ?_
                refine JC_region ?_
                refine JL_pd rfl (det_move rfl) ?_
                refine JL_pd rfl (det_move rfl) ?_
                refine JL_pd rfl (det_len rfl Try.runUnderlying36) ?_
                refine JL_pd rfl (det_lss rfl rfl) ?_
                refine JL_nil ?_
                refine JE_seq ?_
                -- stop: cond
                refine JC_if rfl (fun h8 => ?_) (fun h8 => ?_)
                · have hi2 : i < L1.length := by omega
                  have hii := hin _ (List.getElem_mem hi2)
                  have hph := h12 _ (List.getElem_mem hi2)
                  obtain ⟨w1, w2, w3, w4⟩ := hii
                  have hg5 : (nmC f t)[0 + L1[i].st.toNat * 1]? = some (I (f L1[i].st)) := by rw [show 0 + L1[i].st.toNat * 1 = L1[i].st.toNat by omega, nmC_get f t _ (by omega) (by omega), show ((L1[i].st.toNat : Nat) : Int) = L1[i].st by omega]
                  have hhas := fun la lc => has_j (phi f L1[i]) la lc L2 (by omega)
                  rw [decide_eq_true hph] at hhas
                  refine JC_skip ?_
                  refine JE_seq ?_
                  refine JC_seq ?_
                  refine JC_block ?_
                  refine JC_seq ?_
                  refine JC_draw [] (by kernel_rfl) ?_
                  refine JA_pd (i := 0) rfl (by kernel_rfl) rfl rfl (det_move rfl) ?_
                  refine JA_pd (i := 1) rfl (by kernel_rfl) rfl rfl (det_move rfl) ?_
                  refine JA_dt (i := 2) rfl (by kernel_rfl) (by kernel_rfl) rfl rfl (det_indexAddr rfl rfl (by first | rfl | omega) (by first | assumption | omega | decide) Try.runUnderlying36 Try.sizeOf77) ?_
                  refine JA_pd (i := 3) rfl (by kernel_rfl) rfl rfl (det_fieldAddrE rfl fo_77_0) ?_
                  refine JA_dt (i := 4) rfl (by kernel_rfl) (by kernel_rfl) rfl rfl (det_loadEk rfl (by first | assumption | omega | decide) Try.isAgg3 rfl rfl) ?_
                  refine JA_pd (i := 5) rfl (by kernel_rfl) rfl rfl (det_lss rfl rfl) ?_
                  refine JA_pd (i := 6) rfl (by kernel_rfl) rfl rfl (det_move rfl) ?_
                  -- stop: guard 6
                  refine JA_is (d0 := 224) false rfl (by exact decide_eq_false (by omega)) (fun k1 => ?_)
                  refine JA_gpd (i := 7) rfl (by kernel_rfl) rfl rfl rfl rfl k1 (det_move rfl) ?_
                  refine JA_gpd (i := 8) rfl (by kernel_rfl) rfl rfl rfl rfl k1 (det_move rfl) ?_
                  refine JA_gdt (i := 9) rfl (by kernel_rfl) (by kernel_rfl) rfl rfl rfl rfl k1 (det_indexAddr rfl rfl (by first | rfl | omega) (by first | assumption | omega | decide) Try.runUnderlying36 Try.sizeOf77) ?_
                  refine JA_gpd (i := 10) rfl (by kernel_rfl) rfl rfl rfl rfl k1 (det_fieldAddrE rfl fo_77_0) ?_
                  refine JA_gdt (i := 11) rfl (by kernel_rfl) (by kernel_rfl) rfl rfl rfl rfl k1 (det_loadEk rfl (by first | assumption | omega | decide) Try.isAgg3 rfl rfl) ?_
                  refine JA_gpd (i := 12) rfl (by kernel_rfl) rfl rfl rfl rfl k1 (det_gtr rfl rfl) ?_
                  refine JA_pd (i := 13) rfl (by kernel_rfl) rfl rfl (det_pick_f rfl k1 rfl) ?_
                  refine JA_pd (i := 14) rfl (by kernel_rfl) rfl rfl (det_move rfl) ?_
                  -- stop: guard 14
                  refine JA_is (d0 := 232) false rfl (by exact decide_eq_false (by omega)) (fun k2 => ?_)
                  refine JA_gpd (i := 15) rfl (by kernel_rfl) rfl rfl rfl rfl k2 (det_move rfl) ?_
                  refine JA_gpd (i := 16) rfl (by kernel_rfl) rfl rfl rfl rfl k2 (det_move rfl) ?_
                  refine JA_gpd (i := 17) rfl (by kernel_rfl) rfl rfl rfl rfl k2 (det_move rfl) ?_
                  refine JA_gdt (i := 18) rfl (by kernel_rfl) (by kernel_rfl) rfl rfl rfl rfl k2 (det_indexAddr rfl rfl (by first | rfl | omega) (by first | assumption | omega | decide) Try.runUnderlying36 Try.sizeOf77) ?_
                  refine JA_gpd (i := 19) rfl (by kernel_rfl) rfl rfl rfl rfl k2 (det_fieldAddrE rfl fo_77_0) ?_
                  refine JA_gdt (i := 20) rfl (by kernel_rfl) (by kernel_rfl) rfl rfl rfl rfl k2 (det_loadEk rfl (by first | assumption | omega | decide) Try.isAgg3 rfl rfl) ?_
                  refine JA_gpd (i := 21) rfl (by kernel_rfl) rfl rfl rfl rfl k2 (det_indexArr (i := L1[i].st.toNat) rfl rfl (by omega) (by omega) Try.runUnderlying78 Try.sizeOf3) ?_
                  refine JA_gdt (i := 22) rfl (by kernel_rfl) (by kernel_rfl) rfl rfl rfl rfl k2 (det_loadK (v := I (f L1[i].st)) rfl Try.isAgg3 hg5) ?_
                  refine JA_gpd (i := 23) rfl (by kernel_rfl) rfl rfl rfl rfl k2 (det_move rfl) ?_
                  refine JA_gpd (i := 24) rfl (by kernel_rfl) rfl rfl rfl rfl k2 (det_move rfl) ?_
                  refine JA_gdt (i := 25) rfl (by kernel_rfl) (by kernel_rfl) rfl rfl rfl rfl k2 (det_indexAddr rfl rfl (by first | rfl | omega) (by first | assumption | omega | decide) Try.runUnderlying36 Try.sizeOf77) ?_
                  refine JA_gpd (i := 26) rfl (by kernel_rfl) rfl rfl rfl rfl k2 (det_fieldAddrE rfl fo_77_1) ?_
                  refine JA_gdt (i := 27) rfl (by kernel_rfl) (by kernel_rfl) rfl rfl rfl rfl k2 (det_loadEk rfl (by first | assumption | omega | decide) Try.isAgg3 rfl rfl) ?_
                  refine JA_gpd (i := 28) rfl (by kernel_rfl) rfl rfl rfl rfl k2 (det_build rfl (bld_77_0_1 _ _)) ?_
                  -- stop: op 29 t247 := (call (Call (value f43) (t233 t246) (36 77)))   <15 28 14 14>   GUARD (some (Prod 14 false))   347
                  refine JA_gone (i := 29) (by kernel_rfl) rfl rfl rfl k2 rfl (jo_callv rfl rfl Try.call43 rfl (hhas la2 lc2)) (fun _ => ⟨hsub_refl, fun _ h => h⟩) fun _ => ?_
                  refine JA_gpd (i := 30) rfl (by kernel_rfl) rfl rfl rfl rfl k2 (det_not rfl) ?_
                  refine JA_pd (i := 31) rfl (by kernel_rfl) rfl rfl (det_pick_f rfl k2 rfl) ?_
                  refine JA_done (by kernel_rfl) ?_
                  refine JE_seq ?_
                  -- stop: cond
                  refine JC_cond rfl (fun h9 => ?_) (fun h9 => ?_)
                  · cases h9
                  · refine JC_skip ?_
                    refine JE_block ?_
                    refine JE_seq ?_
                    refine JC_region ?_
                    refine JL_pd rfl (det_move rfl) ?_
                    refine JL_pd rfl (det_add rfl rfl ⟨by omega, by omega⟩) ?_
                    refine JL_pd rfl (det_assign rfl) ?_
                    refine JL_nil ?_
                    -- stop: end
                    refine JE_roundF hK4 (i + 1) (by omega) (by omega) (stsub_consI rfl (by omega) stsub_nil) ht_nil
                · refine JC_exit ?_
                  refine JE_seq_exit ?_
                  refine JE_then_exit ?_
                  refine JE_block_here ?_
                  refine JE_seq ?_
                  refine JC_seq ?_
                  refine JC_region ?_
                  refine JL_step rfl rfl rfl (jo_callv rfl rfl Try.call18 rfl (wakes_j)) fun _ => ?_
                  refine JL_pd rfl (det_assign rfl) ?_
                  refine JL_nil ?_
                  refine JE_seq ?_
                  refine JC_ret ?_
                  -- stop: out
                  refine JE_out (.inl rfl) () (results1 Try.results10 (res_tmp rfl)) rfl (List.Perm.refl _) (fun _ _ => trivial)
end Go.Proofs.Ytgbfjcgjcnndpaa

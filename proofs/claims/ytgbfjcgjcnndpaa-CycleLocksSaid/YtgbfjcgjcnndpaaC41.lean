/- The statements about cycle: CycleMore. -/
import Derived.Test.YtgbfjcgjcnndpaaC40
import Derived.Test.YtgbfjcgjcnndpaaJ22
set_option linter.unusedSimpArgs false
set_option linter.unusedVariables false
namespace Go.Proofs.Ytgbfjcgjcnndpaa
open Go.RowKit Go.Shelf

theorem rch_mono {m x : Mc} (h : ∀ s (g : Int), ∀ t ∈ nextL m m.locks s g, t ∈ nextL x x.locks s g) {s : Sd} (hs : Rch m m.locks s) : Rch x x.locks s := by
  induction hs with
  | zero => exact .zero
  | step _ hst ih => obtain ⟨g, hg, ht⟩ := hst; exact .step ih ⟨g, hg, h _ _ _ ht⟩
theorem safe_iff {m : Mc} (V : Valid m) : safeB m = true ↔ ∀ s, Rch m m.locks s → dangerB m s = false := by
  refine ⟨fun h s hs => ?_, safe_no V⟩
  cases hd : dangerB m s with
  | false => rfl
  | true =>
    obtain ⟨l, hl⟩ := hs.way V hd
    unfold safeB at h
    rw [hl] at h; cases h
theorem sub_iff {m x : Mc} (V : Valid m) (V' : Valid x) : subB (reachL m m.locks) (reachL x x.locks) = true ↔ ∀ s, Rch m m.locks s → Rch x x.locks s := by
  unfold subB
  rw [List.all_eq_true]
  exact ⟨fun h s hs => (mem_reachL V').1 (of_decide_eq_true (h s ((mem_reachL V).2 hs))), fun h s hs => decide_eq_true ((mem_reachL V').2 (h s ((mem_reachL V).1 hs)))⟩
abbrev lockM (m : Mc) (l : Lk) : Mc := ⟨m.states, m.steps, m.running, m.locks ++ [l]⟩
abbrev stepM (m : Mc) (s : Sp) : Mc := ⟨m.states, m.steps ++ [s], m.running, m.locks⟩
def runL (m : Mc) (k : Int) (n : Nat) : List Int := ((List.range n).filter fun i : Nat => decide ((i : Int) = k) || decide ((i : Int) ∈ m.running)).map fun i : Nat => (i : Int)
abbrev runM (m : Mc) (k : Int) : Mc := ⟨m.states, m.steps, runL m k m.states.toNat, m.locks⟩
theorem runL_succ (m : Mc) (k : Int) (n : Nat) : runL m k (n + 1) = runL m k n ++ (if (decide ((n : Int) = k) || decide ((n : Int) ∈ m.running)) = true then [(n : Int)] else []) := by
  unfold runL
  rw [List.range_succ, List.filter_append, List.map_append]
  congr 1
  split <;> rename_i h <;> simp [h]
theorem runL_len (m : Mc) (k : Int) (n : Nat) : (runL m k n).length ≤ n := by
  unfold runL; rw [List.length_map]; exact Nat.le_trans (List.length_filter_le _ _) (by simp)
theorem ht_owS {H H' L D : List Chunk} {v v' : Value} {T z n n' : Nat} {xs xs' : List Value} [h : OwnAt H v T z n xs H'] (ev : v = v') (e : n = n') (e' : xs = xs') (h2 : HTake H' L D) : HTake H (ow v' T z n' xs' :: L) D := by
  subst ev; exact ht_ow e e' h2
theorem lock_more {m : Mc} (V : Valid m) (l : Lk) (V' : Valid (lockM m l)) : subB (reachL (lockM m l) (lockM m l).locks) (reachL m m.locks) = true ∧ (safeB m = true → safeB (lockM m l) = true) := by
  have h : ∀ {s : Sd}, Rch (lockM m l) (lockM m l).locks s → Rch m m.locks s := rch_mono fun s g t ht => by
    unfold nextL at ht ⊢
    split at ht
    · cases ht
    · rename_i hno
      rw [if_neg fun hm => hno (List.mem_append.2 (.inl hm))]
      exact ht
  exact ⟨(sub_iff V' V).2 fun s => h, fun hs => (safe_iff V').2 fun s hr => (safe_iff V).1 hs s (h hr)⟩
theorem step_more {m : Mc} (V : Valid m) (x : Sp) (V' : Valid (stepM m x)) : subB (reachL m m.locks) (reachL (stepM m x) (stepM m x).locks) = true ∧ (safeB (stepM m x) = true → safeB m = true) := by
  have h : ∀ {s : Sd}, Rch m m.locks s → Rch (stepM m x) (stepM m x).locks s := rch_mono fun s g t ht => by
    unfold nextL at ht ⊢
    split at ht
    · cases ht
    · rename_i hno
      rw [if_neg hno]
      unfold moves at ht ⊢
      split at ht
      · rename_i h6; rw [if_pos h6]; exact ht
      · rename_i h6
        rw [if_neg h6]
        split at ht
        · rename_i h7; rw [if_pos h7]; exact ht
        · rename_i h7
          rw [if_neg h7]
          simp only [stepTo, List.mem_map, List.mem_filter] at ht ⊢
          obtain ⟨y, ⟨h1, h2⟩, h3⟩ := ht
          exact ⟨y, ⟨List.mem_append.2 (.inl h1), h2⟩, h3⟩
  exact ⟨(sub_iff V V').2 fun s => h, fun hs => (safe_iff V).2 fun s hr => (safe_iff V').1 hs s (h hr)⟩
theorem run_more {m : Mc} (V : Valid m) (k : Int) (V' : Valid (runM m k)) : subB (reachL m m.locks) (reachL (runM m k) (runM m k).locks) = true ∧ (safeB (runM m k) = true → safeB m = true) := by
  have h : ∀ {s : Sd}, Rch m m.locks s → Rch (runM m k) (runM m k).locks s := rch_mono (m := m) (x := runM m k) fun s g t ht => ht
  refine ⟨(sub_iff V V').2 fun s => h, fun hs => (safe_iff V).2 fun s hr => ?_⟩
  have h1 := (safe_iff V').1 hs s (h hr)
  unfold dangerB at h1 ⊢
  cases h2 : decide (s.sp = 2) with
  | false => rfl
  | true =>
    rw [h2, Bool.true_and] at h1
    rw [Bool.true_and]
    have hno := of_decide_eq_false h1
    refine decide_eq_false fun hm => hno ?_
    have hb := V.run _ hm
    refine List.mem_map.2 ⟨s.st.toNat, List.mem_filter.2 ⟨List.mem_range.2 (by omega), ?_⟩, by omega⟩
    rw [show ((s.st.toNat : Nat) : Int) = s.st by omega, decide_eq_true hm, Bool.or_true]
set_option maxRecDepth 100000 in
set_option maxHeartbeats 2000000 in
theorem CycleMore_0 (m : Mc) (a : MA) (wh : Int) (lk : Lk) (sp : Sp) (he : fault m = 0) (h0 : 0 ≤ wh) (h255 : wh ≤ 255) (hwh : wh.tmod 3 = 0) : Cv Try.prog 7 [.agg #[I m.states, .slice a.sa m.steps.length a.sc, .slice a.ra m.running.length a.rc, .slice a.ka m.locks.length a.kc], .int .u8 wh, .agg #[I lk.sg, I lk.at_], .agg #[I sp.fr, I sp.to_, I sp.sg]] (KMc m a) (.bool true) := by
  have V := valid_of he
  have hl1 := V.ns; have hl2 := V.nl; have hl3 := V.nr; have s1 := V.s1; have s2 := V.s2
  have hrb := ready_of he
  refine Cx_of Try.func7 rfl Try.ntmps7 rfl fun w0 M0 => ?_
  refine JC_seq ?_
  refine JC_region ?_
  refine JL_step rfl rfl rfl (jo_box rfl rfl) fun b4 => ?_
  refine JL_step rfl rfl rfl (jo_box rfl rfl) fun b6 => ?_
  refine JL_step rfl rfl rfl (jo_box rfl rfl) fun b7 => ?_
  refine JL_pd rfl (det_assign rfl) ?_
  refine JL_nil ?_
  refine JE_seq ?_
  refine JC_seq ?_
  refine JC_seq ?_
  refine JC_region ?_
  refine JL_dt rfl (det_loadKA rfl Try.isAgg26 Try.sizeOf26 rfl rfl) ?_
  refine JL_step rfl rfl rfl (jo_callv rfl rfl Try.call38 rfl (ready_j m a)) fun _ => ?_
  refine JL_pd rfl (det_not rfl) ?_
  refine JL_nil ?_
  refine JE_seq ?_
  -- stop: cond
  refine JC_cond rfl (fun h1 => ?_) (fun h1 => ?_)
  · rw [hrb] at h1; cases h1
  · refine JC_keep b4 noFp ?_
    refine JC_keep b6 noFp ?_
    refine JC_keep b7 noFp ?_
    refine JC_skip ?_
    refine JE_seq ?_
    refine JC_seq ?_
    refine JC_region ?_
    refine JL_dt rfl (det_loadKA rfl Try.isAgg26 Try.sizeOf26 rfl rfl) ?_
    refine JL_step rfl rfl rfl (jo_alloc0 Try.zeroValue26 rfl) fun b9 => ?_
    refine JL_step0 rfl rfl (jo_store rfl rfl rfl (by first | (simp only [splice_norm]; done) | (simp only [splice_norm]; rfl) | rfl) Try.sizeOf26 rfl rfl) fun _ => ?_
    refine JL_nil ?_
    refine JE_seq ?_
    refine JC_seq ?_
    refine JC_seq ?_
    refine JC_region ?_
    refine JL_pd rfl (det_move rfl) ?_
    refine JL_pd rfl (det_rem rfl rfl (by omega)) ?_
    refine JL_nil ?_
    refine JE_seq ?_
    refine JC_block ?_
    refine JC_seq ?_
    refine JC_region ?_
    refine JL_pd rfl (det_eql rfl rfl) ?_
    refine JL_pd rfl (det_assign rfl) ?_
    refine JL_nil ?_
    refine JE_seq ?_
    -- stop: cond
    refine JC_cond rfl (fun h2 => ?_) (fun h2 => ?_)
    · skip
      -- stop: draw
      refine JC_cutE (γ := Nat × Nat) (fun _ => True) (fun q => []) (fun q => [bx b9 [I m.states, .slice a.sa m.steps.length a.sc, .slice a.ra m.running.length a.rc, .slice (some ⟨q.1, 0, none⟩) (m.locks ++ [lk]).length q.2], ow (.slice (some ⟨q.1, 0, none⟩) (m.locks ++ [lk]).length q.2) 63 2 (m.locks ++ [lk]).length ((m.locks ++ [lk]).flatMap encLk)]) (fun q => KTrue) [] (fun K hK => ?_) (fun q _ => ?_)
      · refine JC_draw0 (by kernel_rfl) ?_
        refine JA_pd (i := 1) rfl (by kernel_rfl) rfl rfl (det_fieldAddr rfl fo_26_3) ?_
        refine JA_dt (i := 2) rfl (by kernel_rfl) (by kernel_rfl) rfl rfl (det_loadK rfl Try.isAgg24 rfl) ?_
        refine JA_dt (i := 4) rfl (by kernel_rfl) (by kernel_rfl) rfl rfl (det_loadKA rfl Try.isAgg63 Try.sizeOf63 rfl rfl) ?_
        refine JA_ready (rs := [0, 5]) (by kernel_rfl) rfl ?_
        refine JAl_consH (i := 0) rfl rfl (jo_buildOwn (z := 2) rfl (bsl_24_0) rfl (by decide)) (fun _ => ⟨HIn.sub, Knows.know⟩) (fun b56 => ?_) ?_
        · refine JA_ready (rs := [3, 5]) (by kernel_rfl) rfl ?_
          refine JAl_consH (i := 3) rfl rfl (jo_appendK (e := encLk) el_24 rfl rfl (fun _ => rfl) (by omega)) (fun _ => ⟨HIn.sub, Knows.know⟩) (fun b59 => ?_) ?_
          · refine JA_oneH (i := 5) (by kernel_rfl) rfl rfl (jo_buildSlice rfl (bsl_24_1_0 _ _)) (fun _ => ⟨HIn.sub, Knows.know⟩) fun b61 => ?_
            refine JA_oneH (i := 6) (by kernel_rfl) rfl rfl (jo_append el_24 rfl rfl rfl rfl (by omega)) (fun _ => ⟨HIn.sub, Knows.know⟩) fun b62 => ?_
            refine JA_pd (i := 7) rfl (by kernel_rfl) rfl rfl (det_fieldAddr rfl fo_26_3) ?_
            refine JA_oneH (i := 8) (by kernel_rfl) rfl rfl (jo_store rfl rfl rfl (by first | (simp only [splice_norm]; done) | (simp only [splice_norm]; rfl) | rfl) Try.sizeOf24 rfl rfl) (fun _ => ⟨HIn.sub, Knows.know⟩) fun _ => ?_
            refine JA_done (by kernel_rfl) ?_
            exact JE_cutK hK b62 trivial stsub_nil (ht_bx (by simp) (ht_owS (v := .slice (some ⟨b62.1, 0, none⟩) (0 + m.locks.length + 1) b62.2) (by simp) (by simp) (by simp [encLk]) ht_nil))
          refine JAl_consH (i := 5) rfl rfl (jo_buildSlice rfl (bsl_24_1_0 _ _)) (fun _ => ⟨HIn.sub, Knows.know⟩) (fun b61 => ?_) ?_
          · refine JA_oneH (i := 3) (by kernel_rfl) rfl rfl (jo_appendK (e := encLk) el_24 rfl rfl (fun _ => rfl) (by omega)) (fun _ => ⟨HIn.sub, Knows.know⟩) fun b59 => ?_
            refine JA_oneH (i := 6) (by kernel_rfl) rfl rfl (jo_append el_24 rfl rfl rfl rfl (by omega)) (fun _ => ⟨HIn.sub, Knows.know⟩) fun b62 => ?_
            refine JA_pd (i := 7) rfl (by kernel_rfl) rfl rfl (det_fieldAddr rfl fo_26_3) ?_
            refine JA_oneH (i := 8) (by kernel_rfl) rfl rfl (jo_store rfl rfl rfl (by first | (simp only [splice_norm]; done) | (simp only [splice_norm]; rfl) | rfl) Try.sizeOf24 rfl rfl) (fun _ => ⟨HIn.sub, Knows.know⟩) fun _ => ?_
            refine JA_done (by kernel_rfl) ?_
            exact JE_cutK hK b62 trivial stsub_nil (ht_bx (by simp) (ht_owS (v := .slice (some ⟨b62.1, 0, none⟩) (0 + m.locks.length + 1) b62.2) (by simp) (by simp) (by simp [encLk]) ht_nil))
          exact JAl_nil
        refine JAl_consH (i := 5) rfl rfl (jo_buildSlice rfl (bsl_24_1_0 _ _)) (fun _ => ⟨HIn.sub, Knows.know⟩) (fun b61 => ?_) ?_
        · refine JA_oneH (i := 0) (by kernel_rfl) rfl rfl (jo_buildOwn (z := 2) rfl (bsl_24_0) rfl (by decide)) (fun _ => ⟨HIn.sub, Knows.know⟩) fun b56 => ?_
          refine JA_oneH (i := 3) (by kernel_rfl) rfl rfl (jo_appendK (e := encLk) el_24 rfl rfl (fun _ => rfl) (by omega)) (fun _ => ⟨HIn.sub, Knows.know⟩) fun b59 => ?_
          refine JA_oneH (i := 6) (by kernel_rfl) rfl rfl (jo_append el_24 rfl rfl rfl rfl (by omega)) (fun _ => ⟨HIn.sub, Knows.know⟩) fun b62 => ?_
          refine JA_pd (i := 7) rfl (by kernel_rfl) rfl rfl (det_fieldAddr rfl fo_26_3) ?_
          refine JA_oneH (i := 8) (by kernel_rfl) rfl rfl (jo_store rfl rfl rfl (by first | (simp only [splice_norm]; done) | (simp only [splice_norm]; rfl) | rfl) Try.sizeOf24 rfl rfl) (fun _ => ⟨HIn.sub, Knows.know⟩) fun _ => ?_
          refine JA_done (by kernel_rfl) ?_
          exact JE_cutK hK b62 trivial stsub_nil (ht_bx (by simp) (ht_owS (v := .slice (some ⟨b62.1, 0, none⟩) (0 + m.locks.length + 1) b62.2) (by simp) (by simp) (by simp [encLk]) ht_nil))
        exact JAl_nil
      dsimp only [List.cons_append, List.nil_append]
      refine JE_block ?_
      refine JE_seq ?_
      refine JC_seq ?_
      refine JC_seq ?_
      refine JC_region ?_
      refine JL_slice (enc := encLk) (v := .slice (some ⟨q.1, 0, none⟩) (m.locks ++ [lk]).length q.2) (m.locks ++ [lk]) noFp rfl rfl ?_
      rintro av cv hv
      cases hv
      refine JL_dt rfl (det_loadKA rfl Try.isAgg26 Try.sizeOf26 rfl rfl) ?_
      refine JL_step rfl rfl rfl (jo_callv rfl rfl Try.call38 rfl (ready_j (lockM m lk) ⟨a.sa, a.ra, some ⟨q.1, 0, none⟩, a.sc, a.rc, q.2⟩)) fun _ => ?_
      refine JL_pd rfl (det_not rfl) ?_
      refine JL_nil ?_
      refine JE_seq ?_
      -- stop: cond
      refine JC_cond rfl (fun h9 => ?_) (fun h9 => ?_)
      · refine JC_seq ?_
        refine JC_region ?_
        refine JL_step rfl rfl rfl (jo_callv rfl rfl Try.call18 rfl (wakes_j)) fun _ => ?_
        refine JL_pd rfl (det_assign rfl) ?_
        refine JL_nil ?_
        refine JE_seq ?_
        refine JC_ret ?_
        refine JE_seq_ret ?_
        -- stop: out
        refine JE_out (.inl rfl) () (results1 Try.results7 (res_tmp rfl)) rfl (List.Perm.refl _) (fun _ _ => trivial)
      · have hrx : readyB (lockM m lk) = true := by simpa using h9
        have hex := ready_v hrx
        have Vx := valid_of hex
        have p1 := Vx.ns; have p2 := Vx.nl; have p3 := Vx.nr
        have hmore := lock_more V lk Vx
        have q1 := fun b : MA => Stands_jo m b he
        have q2 := fun b : MA => Stands_jo (lockM m lk) b hex
        have q3 := safe_j m a he
        have q4 := safe_j (lockM m lk) ⟨a.sa, a.ra, some ⟨q.1, 0, none⟩, a.sc, a.rc, q.2⟩ hex
        have r1 := reach_len m m.locks
        have r2 := reach_len (lockM m lk) ((lockM m lk)).locks
        generalize reachL m m.locks = L1 at hmore q1 r1
        generalize reachL (lockM m lk) ((lockM m lk)).locks = L2 at hmore q2 r2
        generalize safeB m = S1 at hmore q3
        generalize safeB (lockM m lk) = S2 at hmore q4
        obtain ⟨hsub, hsafe⟩ := hmore
        refine JC_skip ?_
        refine JE_seq ?_
        refine JC_seq ?_
        refine JC_region ?_
        refine JL_dt rfl (det_loadKA rfl Try.isAgg26 Try.sizeOf26 rfl rfl) ?_
        -- stop: op  1 t80 := (call (Call (value f20) (t79) (26)))   <0>   153
        refine JL_step rfl rfl rfl (jo_call rfl rfl Try.call20 rfl (Machine_j m a (by omega) (by omega) (by omega))) fun y1 => ?_
        -- stop: op  2 t81 := (call (Call (value f21) (t80) (34)))   <1 1>   153
        refine JL_step rfl rfl rfl (jo_call rfl rfl Try.call21 rfl (q1 y1)) fun ⟨la1, lc1⟩ => ?_
        refine JL_pd rfl (det_move rfl) ?_
        refine JL_pd rfl (det_extract rfl rfl) ?_
        refine JL_pd rfl (det_extract rfl rfl) ?_
        refine JL_pd rfl (det_assign rfl) ?_
        refine JL_pd rfl (det_assign rfl) ?_
        refine JL_nil ?_
        refine JE_seq ?_
        refine JC_seq ?_
        refine JC_region ?_
        refine JL_dt rfl (det_loadKA rfl Try.isAgg26 Try.sizeOf26 rfl rfl) ?_
        -- stop: op  1 t86 := (call (Call (value f20) (t85) (26)))   <0>   154
        refine JL_step rfl rfl rfl (jo_call rfl rfl Try.call20 rfl (Machine_j (lockM m lk) ⟨a.sa, a.ra, some ⟨q.1, 0, none⟩, a.sc, a.rc, q.2⟩ (by omega) (by omega) (by omega))) fun y2 => ?_
        -- stop: op  2 t87 := (call (Call (value f21) (t86) (34)))   <1 1>   154
        refine JL_step rfl rfl rfl (jo_call rfl rfl Try.call21 rfl (q2 y2)) fun ⟨la2, lc2⟩ => ?_
        refine JL_pd rfl (det_move rfl) ?_
        refine JL_pd rfl (det_extract rfl rfl) ?_
        refine JL_pd rfl (det_extract rfl rfl) ?_
        refine JL_pd rfl (det_assign rfl) ?_
        refine JL_pd rfl (det_assign rfl) ?_
        refine JL_nil ?_
        refine JE_seq ?_
        refine JC_seq ?_
        refine JC_region ?_
        refine JL_dt rfl (det_loadKA rfl Try.isAgg26 Try.sizeOf26 rfl rfl) ?_
        -- stop: op  1 t92 := (call (Call (value f40) (t91) (26)))   <0>   155
        refine JL_step rfl rfl rfl (jo_callv rfl rfl Try.call40 rfl (q3)) fun _ => ?_
        refine JL_pd rfl (det_move rfl) ?_
        refine JL_pd rfl (det_extract rfl rfl) ?_
        refine JL_pd rfl (det_extract rfl rfl) ?_
        refine JL_pd rfl (det_assign rfl) ?_
        refine JL_pd rfl (det_assign rfl) ?_
        refine JL_nil ?_
        refine JE_seq ?_
        refine JC_seq ?_
        refine JC_region ?_
        refine JL_dt rfl (det_loadKA rfl Try.isAgg26 Try.sizeOf26 rfl rfl) ?_
        -- stop: op  1 t97 := (call (Call (value f40) (t96) (26)))   <0>   156
        refine JL_step rfl rfl rfl (jo_callv rfl rfl Try.call40 rfl (q4)) fun _ => ?_
        refine JL_pd rfl (det_move rfl) ?_
        refine JL_pd rfl (det_extract rfl rfl) ?_
        refine JL_pd rfl (det_extract rfl rfl) ?_
        refine JL_pd rfl (det_assign rfl) ?_
        refine JL_pd rfl (det_assign rfl) ?_
        refine JL_nil ?_
        refine JE_seq ?_
        refine JC_seq ?_
        refine JC_seq ?_
        refine JC_region ?_
        refine JL_pd rfl (det_move rfl) ?_
        refine JL_pd rfl (det_neq rfl rfl) ?_
        refine JL_pd rfl (det_move rfl) ?_
        -- stop: guard 2
        skip
        refine JL_is (d0 := 102) false rfl (by (first | rfl | decide)) (fun g1 => ?_)
        refine JL_guard rfl rfl g1 ?_
        refine JL_pd rfl (det_move rfl) ?_
        refine JL_guard rfl rfl g1 ?_
        refine JL_pd rfl (det_neq rfl rfl) ?_
        refine JL_pd rfl (det_pick_f rfl g1 rfl) ?_
        refine JL_pd rfl (det_move rfl) ?_
        refine JL_is (d0 := 106) false rfl (by (first | rfl | decide)) (fun g2 => ?_)
        refine JL_guard rfl rfl g2 ?_
        refine JL_pd rfl (det_move rfl) ?_
        refine JL_guard rfl rfl g2 ?_
        refine JL_pd rfl (det_not rfl) ?_
        refine JL_pd rfl (det_pick_f rfl g2 rfl) ?_
        refine JL_pd rfl (det_move rfl) ?_
        refine JL_is (d0 := 110) false rfl (by (first | rfl | decide)) (fun g3 => ?_)
        refine JL_guard rfl rfl g3 ?_
        refine JL_pd rfl (det_move rfl) ?_
        refine JL_guard rfl rfl g3 ?_
        refine JL_pd rfl (det_not rfl) ?_
        refine JL_pd rfl (det_pick_f rfl g3 rfl) ?_
        refine JL_nil ?_
        refine JE_seq ?_
        -- stop: cond
        refine JC_cond rfl (fun h10 => ?_) (fun h10 => ?_)
        · cases h10
        · refine JC_skip ?_
          refine JE_seq ?_
          refine JC_seq ?_
          refine JC_seq ?_
          refine JC_region ?_
          refine JL_pd rfl (det_move rfl) ?_
          refine JL_pd rfl (det_rem rfl rfl (by omega)) ?_
          refine JL_pd rfl (det_eql rfl rfl) ?_
          refine JL_nil ?_
          refine JE_seq ?_
          -- stop: cond
          refine JC_cond rfl (fun h11 => ?_) (fun h11 => ?_)
          · refine JC_seq ?_
            refine JC_region ?_
            refine JL_pd rfl (det_move rfl) ?_
            refine JL_pd rfl (det_move rfl) ?_
            refine JL_step rfl rfl rfl (jo_callv rfl rfl Try.call41 rfl (subset_j _ _ _ _ L2 L1 (by omega) (by omega))) fun _ => ?_
            refine JL_pd rfl (det_move rfl) ?_
            -- stop: guard 3
            refine JL_is (d0 := 120) true rfl (by exact hsub) (fun g1 => ?_)
            refine JL_guard rfl rfl g1 ?_
            refine JL_pd rfl (det_move rfl) ?_
            refine JL_guard rfl rfl g1 ?_
            refine JL_pd rfl (det_not rfl) ?_
            refine JL_guard rfl rfl g1 ?_
            refine JL_pd rfl (det_move rfl) ?_
            -- stop: guard 6
            cases S1 with
            | false =>
              refine JL_is (d0 := 123) true rfl (by rfl) (fun g2 => ?_)
              refine JL_skip rfl rfl g2 rfl ?_
              refine JL_guard rfl rfl g1 ?_
              refine JL_pd rfl (det_pick_t rfl g2 rfl) ?_
              refine JL_pd rfl (det_pick_t rfl g1 rfl) ?_
              refine JL_pd rfl (det_move rfl) ?_
              -- stop: guard 10
              skip
              refine JL_is (d0 := 127) true rfl (by rfl) (fun g1 => ?_)
              refine JL_guard rfl rfl g1 ?_
              refine JL_step rfl rfl rfl (jo_callv rfl rfl Try.call18 rfl (wakes_j)) fun _ => ?_
              refine JL_pd rfl (det_pick_t rfl g1 rfl) ?_
              refine JL_pd rfl (det_assign rfl) ?_
              refine JL_nil ?_
              refine JE_seq ?_
              refine JC_ret ?_
              refine JE_seq_ret ?_
              -- stop: out
              refine JE_out (.inl rfl) () (results1 Try.results7 (res_tmp rfl)) rfl (List.Perm.refl _) (fun _ _ => trivial)
            | true =>
              have hs2 := hsafe rfl
              subst hs2
              refine JL_is (d0 := 123) false rfl (by rfl) (fun g2 => ?_)
              refine JL_guard rfl rfl g2 ?_
              refine JL_pd rfl (det_move rfl) ?_
              refine JL_guard rfl rfl g1 ?_
              refine JL_pd rfl (det_pick_f rfl g2 rfl) ?_
              refine JL_pd rfl (det_pick_t rfl g1 rfl) ?_
              refine JL_pd rfl (det_move rfl) ?_
              -- stop: guard 10
              skip
              refine JL_is (d0 := 127) true rfl (by rfl) (fun g1 => ?_)
              refine JL_guard rfl rfl g1 ?_
              refine JL_step rfl rfl rfl (jo_callv rfl rfl Try.call18 rfl (wakes_j)) fun _ => ?_
              refine JL_pd rfl (det_pick_t rfl g1 rfl) ?_
              refine JL_pd rfl (det_assign rfl) ?_
              refine JL_nil ?_
              refine JE_seq ?_
              refine JC_ret ?_
              refine JE_seq_ret ?_
              -- stop: out
              refine JE_out (.inl rfl) () (results1 Try.results7 (res_tmp rfl)) rfl (List.Perm.refl _) (fun _ _ => trivial)
          · rw [hwh] at h11; cases h11
    · simp [hwh] at h2
set_option maxRecDepth 100000 in
set_option maxHeartbeats 2000000 in
theorem CycleMore_1 (m : Mc) (a : MA) (wh : Int) (lk : Lk) (sp : Sp) (he : fault m = 0) (h0 : 0 ≤ wh) (h255 : wh ≤ 255) (hwh : wh.tmod 3 = 1) : Cv Try.prog 7 [.agg #[I m.states, .slice a.sa m.steps.length a.sc, .slice a.ra m.running.length a.rc, .slice a.ka m.locks.length a.kc], .int .u8 wh, .agg #[I lk.sg, I lk.at_], .agg #[I sp.fr, I sp.to_, I sp.sg]] (KMc m a) (.bool true) := by
  have V := valid_of he
  have hl1 := V.ns; have hl2 := V.nl; have hl3 := V.nr; have s1 := V.s1; have s2 := V.s2
  have hrb := ready_of he
  refine Cx_of Try.func7 rfl Try.ntmps7 rfl fun w0 M0 => ?_
  refine JC_seq ?_
  refine JC_region ?_
  refine JL_step rfl rfl rfl (jo_box rfl rfl) fun b4 => ?_
  refine JL_step rfl rfl rfl (jo_box rfl rfl) fun b6 => ?_
  refine JL_step rfl rfl rfl (jo_box rfl rfl) fun b7 => ?_
  refine JL_pd rfl (det_assign rfl) ?_
  refine JL_nil ?_
  refine JE_seq ?_
  refine JC_seq ?_
  refine JC_seq ?_
  refine JC_region ?_
  refine JL_dt rfl (det_loadKA rfl Try.isAgg26 Try.sizeOf26 rfl rfl) ?_
  refine JL_step rfl rfl rfl (jo_callv rfl rfl Try.call38 rfl (ready_j m a)) fun _ => ?_
  refine JL_pd rfl (det_not rfl) ?_
  refine JL_nil ?_
  refine JE_seq ?_
  -- stop: cond
  refine JC_cond rfl (fun h1 => ?_) (fun h1 => ?_)
  · rw [hrb] at h1; cases h1
  · refine JC_keep b4 noFp ?_
    refine JC_keep b6 noFp ?_
    refine JC_keep b7 noFp ?_
    refine JC_skip ?_
    refine JE_seq ?_
    refine JC_seq ?_
    refine JC_region ?_
    refine JL_dt rfl (det_loadKA rfl Try.isAgg26 Try.sizeOf26 rfl rfl) ?_
    refine JL_step rfl rfl rfl (jo_alloc0 Try.zeroValue26 rfl) fun b9 => ?_
    refine JL_step0 rfl rfl (jo_store rfl rfl rfl (by first | (simp only [splice_norm]; done) | (simp only [splice_norm]; rfl) | rfl) Try.sizeOf26 rfl rfl) fun _ => ?_
    refine JL_nil ?_
    refine JE_seq ?_
    refine JC_seq ?_
    refine JC_seq ?_
    refine JC_region ?_
    refine JL_pd rfl (det_move rfl) ?_
    refine JL_pd rfl (det_rem rfl rfl (by omega)) ?_
    refine JL_nil ?_
    refine JE_seq ?_
    refine JC_block ?_
    refine JC_seq ?_
    refine JC_region ?_
    refine JL_pd rfl (det_eql rfl rfl) ?_
    refine JL_pd rfl (det_assign rfl) ?_
    refine JL_nil ?_
    refine JE_seq ?_
    -- stop: cond
    refine JC_cond rfl (fun h2 => ?_) (fun h2 => ?_)
    · simp [hwh] at h2
    · refine JC_seq ?_
      refine JC_region ?_
      refine JL_pd rfl (det_eql rfl rfl) ?_
      refine JL_pd rfl (det_assign rfl) ?_
      refine JL_nil ?_
      refine JE_seq ?_
      -- stop: cond
      refine JC_cond rfl (fun h3 => ?_) (fun h3 => ?_)
      · skip
        -- stop: draw
        refine JC_cutE (γ := Nat × Nat) (fun _ => True) (fun q => []) (fun q => [bx b9 [I m.states, .slice (some ⟨q.1, 0, none⟩) (m.steps ++ [sp]).length q.2, .slice a.ra m.running.length a.rc, .slice a.ka m.locks.length a.kc], ow (.slice (some ⟨q.1, 0, none⟩) (m.steps ++ [sp]).length q.2) 70 3 (m.steps ++ [sp]).length ((m.steps ++ [sp]).flatMap encSp)]) (fun q => KTrue) [] (fun K hK => ?_) (fun q _ => ?_)
        · refine JC_draw0 (by kernel_rfl) ?_
          refine JA_pd (i := 1) rfl (by kernel_rfl) rfl rfl (det_fieldAddr rfl fo_26_1) ?_
          refine JA_dt (i := 2) rfl (by kernel_rfl) (by kernel_rfl) rfl rfl (det_loadK rfl Try.isAgg22 rfl) ?_
          refine JA_dt (i := 4) rfl (by kernel_rfl) (by kernel_rfl) rfl rfl (det_loadKA rfl Try.isAgg70 Try.sizeOf70 rfl rfl) ?_
          refine JA_ready (rs := [0, 5]) (by kernel_rfl) rfl ?_
          refine JAl_consH (i := 0) rfl rfl (jo_buildOwn (z := 3) rfl (bsl_22_0) rfl (by decide)) (fun _ => ⟨HIn.sub, Knows.know⟩) (fun b66 => ?_) ?_
          · refine JA_ready (rs := [3, 5]) (by kernel_rfl) rfl ?_
            refine JAl_consH (i := 3) rfl rfl (jo_appendK (e := encSp) el_22 rfl rfl (fun _ => rfl) (by omega)) (fun _ => ⟨HIn.sub, Knows.know⟩) (fun b69 => ?_) ?_
            · refine JA_oneH (i := 5) (by kernel_rfl) rfl rfl (jo_buildSlice rfl (bsl_22_1_0 _ _ _)) (fun _ => ⟨HIn.sub, Knows.know⟩) fun b71 => ?_
              refine JA_oneH (i := 6) (by kernel_rfl) rfl rfl (jo_append el_22 rfl rfl rfl rfl (by omega)) (fun _ => ⟨HIn.sub, Knows.know⟩) fun b72 => ?_
              refine JA_pd (i := 7) rfl (by kernel_rfl) rfl rfl (det_fieldAddr rfl fo_26_1) ?_
              refine JA_oneH (i := 8) (by kernel_rfl) rfl rfl (jo_store rfl rfl rfl (by first | (simp only [splice_norm]; done) | (simp only [splice_norm]; rfl) | rfl) Try.sizeOf22 rfl rfl) (fun _ => ⟨HIn.sub, Knows.know⟩) fun _ => ?_
              refine JA_done (by kernel_rfl) ?_
              exact JE_cutK hK b72 trivial stsub_nil (ht_bx (by simp) (ht_owS (v := .slice (some ⟨b72.1, 0, none⟩) (0 + m.steps.length + 1) b72.2) (by simp) (by simp) (by simp [encSp]) ht_nil))
            refine JAl_consH (i := 5) rfl rfl (jo_buildSlice rfl (bsl_22_1_0 _ _ _)) (fun _ => ⟨HIn.sub, Knows.know⟩) (fun b71 => ?_) ?_
            · refine JA_oneH (i := 3) (by kernel_rfl) rfl rfl (jo_appendK (e := encSp) el_22 rfl rfl (fun _ => rfl) (by omega)) (fun _ => ⟨HIn.sub, Knows.know⟩) fun b69 => ?_
              refine JA_oneH (i := 6) (by kernel_rfl) rfl rfl (jo_append el_22 rfl rfl rfl rfl (by omega)) (fun _ => ⟨HIn.sub, Knows.know⟩) fun b72 => ?_
              refine JA_pd (i := 7) rfl (by kernel_rfl) rfl rfl (det_fieldAddr rfl fo_26_1) ?_
              refine JA_oneH (i := 8) (by kernel_rfl) rfl rfl (jo_store rfl rfl rfl (by first | (simp only [splice_norm]; done) | (simp only [splice_norm]; rfl) | rfl) Try.sizeOf22 rfl rfl) (fun _ => ⟨HIn.sub, Knows.know⟩) fun _ => ?_
              refine JA_done (by kernel_rfl) ?_
              exact JE_cutK hK b72 trivial stsub_nil (ht_bx (by simp) (ht_owS (v := .slice (some ⟨b72.1, 0, none⟩) (0 + m.steps.length + 1) b72.2) (by simp) (by simp) (by simp [encSp]) ht_nil))
            exact JAl_nil
          refine JAl_consH (i := 5) rfl rfl (jo_buildSlice rfl (bsl_22_1_0 _ _ _)) (fun _ => ⟨HIn.sub, Knows.know⟩) (fun b71 => ?_) ?_
          · refine JA_oneH (i := 0) (by kernel_rfl) rfl rfl (jo_buildOwn (z := 3) rfl (bsl_22_0) rfl (by decide)) (fun _ => ⟨HIn.sub, Knows.know⟩) fun b66 => ?_
            refine JA_oneH (i := 3) (by kernel_rfl) rfl rfl (jo_appendK (e := encSp) el_22 rfl rfl (fun _ => rfl) (by omega)) (fun _ => ⟨HIn.sub, Knows.know⟩) fun b69 => ?_
            refine JA_oneH (i := 6) (by kernel_rfl) rfl rfl (jo_append el_22 rfl rfl rfl rfl (by omega)) (fun _ => ⟨HIn.sub, Knows.know⟩) fun b72 => ?_
            refine JA_pd (i := 7) rfl (by kernel_rfl) rfl rfl (det_fieldAddr rfl fo_26_1) ?_
            refine JA_oneH (i := 8) (by kernel_rfl) rfl rfl (jo_store rfl rfl rfl (by first | (simp only [splice_norm]; done) | (simp only [splice_norm]; rfl) | rfl) Try.sizeOf22 rfl rfl) (fun _ => ⟨HIn.sub, Knows.know⟩) fun _ => ?_
            refine JA_done (by kernel_rfl) ?_
            exact JE_cutK hK b72 trivial stsub_nil (ht_bx (by simp) (ht_owS (v := .slice (some ⟨b72.1, 0, none⟩) (0 + m.steps.length + 1) b72.2) (by simp) (by simp) (by simp [encSp]) ht_nil))
          exact JAl_nil
        dsimp only [List.cons_append, List.nil_append]
        refine JE_block ?_
        refine JE_seq ?_
        refine JC_seq ?_
        refine JC_seq ?_
        refine JC_region ?_
        refine JL_slice (enc := encSp) (v := .slice (some ⟨q.1, 0, none⟩) (m.steps ++ [sp]).length q.2) (m.steps ++ [sp]) noFp rfl rfl ?_
        rintro av cv hv
        cases hv
        refine JL_dt rfl (det_loadKA rfl Try.isAgg26 Try.sizeOf26 rfl rfl) ?_
        refine JL_step rfl rfl rfl (jo_callv rfl rfl Try.call38 rfl (ready_j (stepM m sp) ⟨some ⟨q.1, 0, none⟩, a.ra, a.ka, q.2, a.rc, a.kc⟩)) fun _ => ?_
        refine JL_pd rfl (det_not rfl) ?_
        refine JL_nil ?_
        refine JE_seq ?_
        -- stop: cond
        refine JC_cond rfl (fun h9 => ?_) (fun h9 => ?_)
        · refine JC_seq ?_
          refine JC_region ?_
          refine JL_step rfl rfl rfl (jo_callv rfl rfl Try.call18 rfl (wakes_j)) fun _ => ?_
          refine JL_pd rfl (det_assign rfl) ?_
          refine JL_nil ?_
          refine JE_seq ?_
          refine JC_ret ?_
          refine JE_seq_ret ?_
          -- stop: out
          refine JE_out (.inl rfl) () (results1 Try.results7 (res_tmp rfl)) rfl (List.Perm.refl _) (fun _ _ => trivial)
        · have hrx : readyB (stepM m sp) = true := by simpa using h9
          have hex := ready_v hrx
          have Vx := valid_of hex
          have p1 := Vx.ns; have p2 := Vx.nl; have p3 := Vx.nr
          have hmore := step_more V sp Vx
          have q1 := fun b : MA => Stands_jo m b he
          have q2 := fun b : MA => Stands_jo (stepM m sp) b hex
          have q3 := safe_j m a he
          have q4 := safe_j (stepM m sp) ⟨some ⟨q.1, 0, none⟩, a.ra, a.ka, q.2, a.rc, a.kc⟩ hex
          have r1 := reach_len m m.locks
          have r2 := reach_len (stepM m sp) ((stepM m sp)).locks
          generalize reachL m m.locks = L1 at hmore q1 r1
          generalize reachL (stepM m sp) ((stepM m sp)).locks = L2 at hmore q2 r2
          generalize safeB m = S1 at hmore q3
          generalize safeB (stepM m sp) = S2 at hmore q4
          obtain ⟨hsub, hsafe⟩ := hmore
          refine JC_skip ?_
          refine JE_seq ?_
          refine JC_seq ?_
          refine JC_region ?_
          refine JL_dt rfl (det_loadKA rfl Try.isAgg26 Try.sizeOf26 rfl rfl) ?_
          -- stop: op  1 t80 := (call (Call (value f20) (t79) (26)))   <0>   153
          refine JL_step rfl rfl rfl (jo_call rfl rfl Try.call20 rfl (Machine_j m a (by omega) (by omega) (by omega))) fun y1 => ?_
          -- stop: op  2 t81 := (call (Call (value f21) (t80) (34)))   <1 1>   153
          refine JL_step rfl rfl rfl (jo_call rfl rfl Try.call21 rfl (q1 y1)) fun ⟨la1, lc1⟩ => ?_
          refine JL_pd rfl (det_move rfl) ?_
          refine JL_pd rfl (det_extract rfl rfl) ?_
          refine JL_pd rfl (det_extract rfl rfl) ?_
          refine JL_pd rfl (det_assign rfl) ?_
          refine JL_pd rfl (det_assign rfl) ?_
          refine JL_nil ?_
          refine JE_seq ?_
          refine JC_seq ?_
          refine JC_region ?_
          refine JL_dt rfl (det_loadKA rfl Try.isAgg26 Try.sizeOf26 rfl rfl) ?_
          -- stop: op  1 t86 := (call (Call (value f20) (t85) (26)))   <0>   154
          refine JL_step rfl rfl rfl (jo_call rfl rfl Try.call20 rfl (Machine_j (stepM m sp) ⟨some ⟨q.1, 0, none⟩, a.ra, a.ka, q.2, a.rc, a.kc⟩ (by omega) (by omega) (by omega))) fun y2 => ?_
          -- stop: op  2 t87 := (call (Call (value f21) (t86) (34)))   <1 1>   154
          refine JL_step rfl rfl rfl (jo_call rfl rfl Try.call21 rfl (q2 y2)) fun ⟨la2, lc2⟩ => ?_
          refine JL_pd rfl (det_move rfl) ?_
          refine JL_pd rfl (det_extract rfl rfl) ?_
          refine JL_pd rfl (det_extract rfl rfl) ?_
          refine JL_pd rfl (det_assign rfl) ?_
          refine JL_pd rfl (det_assign rfl) ?_
          refine JL_nil ?_
          refine JE_seq ?_
          refine JC_seq ?_
          refine JC_region ?_
          refine JL_dt rfl (det_loadKA rfl Try.isAgg26 Try.sizeOf26 rfl rfl) ?_
          -- stop: op  1 t92 := (call (Call (value f40) (t91) (26)))   <0>   155
          refine JL_step rfl rfl rfl (jo_callv rfl rfl Try.call40 rfl (q3)) fun _ => ?_
          refine JL_pd rfl (det_move rfl) ?_
          refine JL_pd rfl (det_extract rfl rfl) ?_
          refine JL_pd rfl (det_extract rfl rfl) ?_
          refine JL_pd rfl (det_assign rfl) ?_
          refine JL_pd rfl (det_assign rfl) ?_
          refine JL_nil ?_
          refine JE_seq ?_
          refine JC_seq ?_
          refine JC_region ?_
          refine JL_dt rfl (det_loadKA rfl Try.isAgg26 Try.sizeOf26 rfl rfl) ?_
          -- stop: op  1 t97 := (call (Call (value f40) (t96) (26)))   <0>   156
          refine JL_step rfl rfl rfl (jo_callv rfl rfl Try.call40 rfl (q4)) fun _ => ?_
          refine JL_pd rfl (det_move rfl) ?_
          refine JL_pd rfl (det_extract rfl rfl) ?_
          refine JL_pd rfl (det_extract rfl rfl) ?_
          refine JL_pd rfl (det_assign rfl) ?_
          refine JL_pd rfl (det_assign rfl) ?_
          refine JL_nil ?_
          refine JE_seq ?_
          refine JC_seq ?_
          refine JC_seq ?_
          refine JC_region ?_
          refine JL_pd rfl (det_move rfl) ?_
          refine JL_pd rfl (det_neq rfl rfl) ?_
          refine JL_pd rfl (det_move rfl) ?_
          -- stop: guard 2
          skip
          refine JL_is (d0 := 102) false rfl (by (first | rfl | decide)) (fun g1 => ?_)
          refine JL_guard rfl rfl g1 ?_
          refine JL_pd rfl (det_move rfl) ?_
          refine JL_guard rfl rfl g1 ?_
          refine JL_pd rfl (det_neq rfl rfl) ?_
          refine JL_pd rfl (det_pick_f rfl g1 rfl) ?_
          refine JL_pd rfl (det_move rfl) ?_
          refine JL_is (d0 := 106) false rfl (by (first | rfl | decide)) (fun g2 => ?_)
          refine JL_guard rfl rfl g2 ?_
          refine JL_pd rfl (det_move rfl) ?_
          refine JL_guard rfl rfl g2 ?_
          refine JL_pd rfl (det_not rfl) ?_
          refine JL_pd rfl (det_pick_f rfl g2 rfl) ?_
          refine JL_pd rfl (det_move rfl) ?_
          refine JL_is (d0 := 110) false rfl (by (first | rfl | decide)) (fun g3 => ?_)
          refine JL_guard rfl rfl g3 ?_
          refine JL_pd rfl (det_move rfl) ?_
          refine JL_guard rfl rfl g3 ?_
          refine JL_pd rfl (det_not rfl) ?_
          refine JL_pd rfl (det_pick_f rfl g3 rfl) ?_
          refine JL_nil ?_
          refine JE_seq ?_
          -- stop: cond
          refine JC_cond rfl (fun h10 => ?_) (fun h10 => ?_)
          · cases h10
          · refine JC_skip ?_
            refine JE_seq ?_
            refine JC_seq ?_
            refine JC_seq ?_
            refine JC_region ?_
            refine JL_pd rfl (det_move rfl) ?_
            refine JL_pd rfl (det_rem rfl rfl (by omega)) ?_
            refine JL_pd rfl (det_eql rfl rfl) ?_
            refine JL_nil ?_
            refine JE_seq ?_
            -- stop: cond
            refine JC_cond rfl (fun h11 => ?_) (fun h11 => ?_)
            · simp [hwh] at h11
            · refine JC_skip ?_
              refine JE_seq ?_
              refine JC_seq ?_
              refine JC_region ?_
              refine JL_pd rfl (det_move rfl) ?_
              refine JL_pd rfl (det_move rfl) ?_
              refine JL_step rfl rfl rfl (jo_callv rfl rfl Try.call41 rfl (subset_j _ _ _ _ L1 L2 (by omega) (by omega))) fun _ => ?_
              refine JL_pd rfl (det_move rfl) ?_
              -- stop: guard 3
              refine JL_is (d0 := 133) true rfl (by exact hsub) (fun g1 => ?_)
              refine JL_guard rfl rfl g1 ?_
              refine JL_pd rfl (det_move rfl) ?_
              refine JL_guard rfl rfl g1 ?_
              refine JL_pd rfl (det_move rfl) ?_
              -- stop: guard 5
              cases S1 with
              | true =>
                refine JL_is (d0 := 135) true rfl (by rfl) (fun g2 => ?_)
                refine JL_skip rfl rfl g2 rfl ?_
                refine JL_skip rfl rfl g2 rfl ?_
                refine JL_guard rfl rfl g1 ?_
                refine JL_pd rfl (det_pick_t rfl g2 rfl) ?_
                refine JL_pd rfl (det_pick_t rfl g1 rfl) ?_
                refine JL_pd rfl (det_move rfl) ?_
                -- stop: guard 10
                skip
                refine JL_is (d0 := 140) true rfl (by rfl) (fun g1 => ?_)
                refine JL_guard rfl rfl g1 ?_
                refine JL_step rfl rfl rfl (jo_callv rfl rfl Try.call18 rfl (wakes_j)) fun _ => ?_
                refine JL_pd rfl (det_pick_t rfl g1 rfl) ?_
                refine JL_pd rfl (det_assign rfl) ?_
                refine JL_nil ?_
                refine JE_seq ?_
                refine JC_ret ?_
                -- stop: out
                refine JE_out (.inl rfl) () (results1 Try.results7 (res_tmp rfl)) rfl (List.Perm.refl _) (fun _ _ => trivial)
              | false =>
                have hs2 : S2 = false := by
                  cases S2 with
                  | false => rfl
                  | true => have := hsafe rfl; cases this
                subst hs2
                refine JL_is (d0 := 135) false rfl (by rfl) (fun g2 => ?_)
                refine JL_guard rfl rfl g2 ?_
                refine JL_pd rfl (det_move rfl) ?_
                refine JL_guard rfl rfl g2 ?_
                refine JL_pd rfl (det_not rfl) ?_
                refine JL_guard rfl rfl g1 ?_
                refine JL_pd rfl (det_pick_f rfl g2 rfl) ?_
                refine JL_pd rfl (det_pick_t rfl g1 rfl) ?_
                refine JL_pd rfl (det_move rfl) ?_
                -- stop: guard 10
                skip
                refine JL_is (d0 := 140) true rfl (by rfl) (fun g1 => ?_)
                refine JL_guard rfl rfl g1 ?_
                refine JL_step rfl rfl rfl (jo_callv rfl rfl Try.call18 rfl (wakes_j)) fun _ => ?_
                refine JL_pd rfl (det_pick_t rfl g1 rfl) ?_
                refine JL_pd rfl (det_assign rfl) ?_
                refine JL_nil ?_
                refine JE_seq ?_
                refine JC_ret ?_
                -- stop: out
                refine JE_out (.inl rfl) () (results1 Try.results7 (res_tmp rfl)) rfl (List.Perm.refl _) (fun _ _ => trivial)
      · simp [hwh] at h3
set_option maxRecDepth 100000 in
set_option maxHeartbeats 2000000 in
theorem CycleMore_2 (m : Mc) (a : MA) (wh : Int) (lk : Lk) (sp : Sp) (he : fault m = 0) (h0 : 0 ≤ wh) (h255 : wh ≤ 255) (hwh : wh.tmod 3 = 2) : Cv Try.prog 7 [.agg #[I m.states, .slice a.sa m.steps.length a.sc, .slice a.ra m.running.length a.rc, .slice a.ka m.locks.length a.kc], .int .u8 wh, .agg #[I lk.sg, I lk.at_], .agg #[I sp.fr, I sp.to_, I sp.sg]] (KMc m a) (.bool true) := by
  have V := valid_of he
  have hl1 := V.ns; have hl2 := V.nl; have hl3 := V.nr; have s1 := V.s1; have s2 := V.s2
  have hrb := ready_of he
  refine Cx_of Try.func7 rfl Try.ntmps7 rfl fun w0 M0 => ?_
  refine JC_seq ?_
  refine JC_region ?_
  refine JL_step rfl rfl rfl (jo_box rfl rfl) fun b4 => ?_
  refine JL_step rfl rfl rfl (jo_box rfl rfl) fun b6 => ?_
  refine JL_step rfl rfl rfl (jo_box rfl rfl) fun b7 => ?_
  refine JL_pd rfl (det_assign rfl) ?_
  refine JL_nil ?_
  refine JE_seq ?_
  refine JC_seq ?_
  refine JC_seq ?_
  refine JC_region ?_
  refine JL_dt rfl (det_loadKA rfl Try.isAgg26 Try.sizeOf26 rfl rfl) ?_
  refine JL_step rfl rfl rfl (jo_callv rfl rfl Try.call38 rfl (ready_j m a)) fun _ => ?_
  refine JL_pd rfl (det_not rfl) ?_
  refine JL_nil ?_
  refine JE_seq ?_
  -- stop: cond
  refine JC_cond rfl (fun h1 => ?_) (fun h1 => ?_)
  · rw [hrb] at h1; cases h1
  · refine JC_keep b4 noFp ?_
    refine JC_keep b6 noFp ?_
    refine JC_keep b7 noFp ?_
    have e3 : wh.tdiv 3 = wh / 3 := Int.tdiv_eq_ediv_of_nonneg h0
    refine JC_skip ?_
    refine JE_seq ?_
    refine JC_seq ?_
    refine JC_region ?_
    refine JL_dt rfl (det_loadKA rfl Try.isAgg26 Try.sizeOf26 rfl rfl) ?_
    refine JL_step rfl rfl rfl (jo_alloc0 Try.zeroValue26 rfl) fun b9 => ?_
    refine JL_step0 rfl rfl (jo_store rfl rfl rfl (by first | (simp only [splice_norm]; done) | (simp only [splice_norm]; rfl) | rfl) Try.sizeOf26 rfl rfl) fun _ => ?_
    refine JL_nil ?_
    refine JE_seq ?_
    refine JC_seq ?_
    refine JC_seq ?_
    refine JC_region ?_
    refine JL_pd rfl (det_move rfl) ?_
    refine JL_pd rfl (det_rem rfl rfl (by omega)) ?_
    refine JL_nil ?_
    refine JE_seq ?_
    refine JC_block ?_
    refine JC_seq ?_
    refine JC_region ?_
    refine JL_pd rfl (det_eql rfl rfl) ?_
    refine JL_pd rfl (det_assign rfl) ?_
    refine JL_nil ?_
    refine JE_seq ?_
    -- stop: cond
    refine JC_cond rfl (fun h2 => ?_) (fun h2 => ?_)
    · simp [hwh] at h2
    · refine JC_seq ?_
      refine JC_region ?_
      refine JL_pd rfl (det_eql rfl rfl) ?_
      refine JL_pd rfl (det_assign rfl) ?_
      refine JL_nil ?_
      refine JE_seq ?_
      -- stop: cond
      refine JC_cond rfl (fun h3 => ?_) (fun h3 => ?_)
      · simp [hwh] at h3
      · refine JC_seq ?_
        refine JC_region ?_
        refine JL_pd rfl (det_move rfl) ?_
        refine JL_pd rfl (det_convI rfl Try.runUnderlying5 Try.runUnderlying3 (i64_wrap ⟨by omega, by omega⟩)) ?_
        refine JL_pd rfl (det_quo rfl rfl (by decide) ⟨by rw [e3]; omega, by rw [e3]; omega⟩) ?_
        refine JL_pd rfl (det_fieldAddr rfl fo_26_0) ?_
        refine JL_dt rfl (det_loadK rfl Try.isAgg3 rfl) ?_
        refine JL_pd rfl (det_rem rfl rfl (by omega)) ?_
        refine JL_pd rfl (det_assign rfl) ?_
        refine JL_nil ?_
        refine JE_seq ?_
        refine JC_seq ?_
        refine JC_region ?_
        refine JL_pd rfl (det_fieldAddr rfl fo_26_2) ?_
        refine JL_step0 rfl rfl (jo_store rfl rfl rfl (by first | (simp only [splice_norm]; done) | (simp only [splice_norm]; rfl) | rfl) Try.sizeOf23 rfl rfl) fun _ => ?_
        refine JL_nil ?_
        refine JE_seq ?_
        refine JC_seq ?_
        refine JC_region ?_
        refine JL_pd rfl (det_assign rfl) ?_
        refine JL_nil ?_
        refine JE_seq ?_
        refine JC_block ?_
        -- stop: loop
        generalize (wh.tdiv 3).tmod m.states = k
        refine JC_nil 3 1 ?_
        refine JC_loopF (γ := Nat × Value) (fun q => (q.1 : Int) ≤ m.states) (fun q => [(11, I q.1)]) (fun q => [bx b9 [I m.states, .slice a.sa m.steps.length a.sc, q.2, .slice a.ka m.locks.length a.kc], ow q.2 3 1 (runL m k q.1).length ((runL m k q.1).flatMap encI)]) (fun q => 8 - q.1) (0, .slice none 0 0) (show ((0 : Nat) : Int) ≤ m.states by omega) (stsub_consI rfl rfl stsub_nil) (ht_bx rfl (ht_ow rfl rfl ht_nil)) ?_
        rintro ⟨i, u⟩ hi K hK
        dsimp only [List.cons_append, List.nil_append] at hi ⊢
        have hrs := runL_succ m k i
        have hrl := runL_len m k i
        refine JC_seq ?_
        refine JC_seq ?_
        refine JC_region ?_
        refine JL_pd rfl (det_move rfl) ?_
        refine JL_pd rfl (det_fieldAddr rfl fo_26_0) ?_
        refine JL_dt rfl (det_loadK rfl Try.isAgg3 rfl) ?_
        refine JL_pd rfl (det_lss rfl rfl) ?_
        refine JL_nil ?_
        refine JE_seq ?_
        -- stop: cond
        refine JC_if rfl (fun h4 => ?_) (fun h4 => ?_)
        · skip
          refine JC_skip ?_
          refine JE_seq ?_
          refine JC_seq ?_
          refine JC_block ?_
          refine JC_seq ?_
          refine JC_region ?_
          refine JL_pd rfl (det_move rfl) ?_
          refine JL_pd rfl (det_move rfl) ?_
          refine JL_pd rfl (det_eql rfl rfl) ?_
          refine JL_pd rfl (det_move rfl) ?_
          -- stop: guard 3
          refine JL_join1 4 47 (.bool (decide ((i : Int) = k) || decide ((i : Int) ∈ m.running))) (fun hj => ?_) ?_
          · refine JL_split (d0 := 43) rfl (fun q1 => ?_) (fun q1 => ?_)
            · refine JL_skip rfl rfl q1 rfl ?_
              refine JL_skip rfl rfl q1 rfl ?_
              refine JL_skip rfl rfl q1 rfl ?_
              refine JL_pd rfl (det_pick_t rfl q1 rfl) ?_
              exact hj (by kernel_rfl) (stsub_consB rfl (by clear hj; first | rfl | (simp only [q1, Bool.and_true, Bool.true_and, Bool.false_and, Bool.and_false, Bool.or_true, Bool.true_or, Bool.or_false, Bool.false_or, Bool.not_true, Bool.not_false]; done) | (simp [q1]; done) | (simp at q1; done) | (simp [q1] <;> omega) | (exfalso; simp at q1; omega)) stsub_nil)
            · refine JL_guard rfl rfl q1 ?_
              refine JL_dt rfl (det_loadKA rfl Try.isAgg26 Try.sizeOf26 rfl rfl) ?_
              refine JL_guard rfl rfl q1 ?_
              refine JL_pd rfl (det_move rfl) ?_
              refine JL_guard rfl rfl q1 ?_
              refine JL_step rfl rfl rfl (jo_callv rfl rfl Try.call39 rfl (Runs_j m a (i : Int) (by omega))) fun _ => ?_
              refine JL_pd rfl (det_pick_f rfl q1 rfl) ?_
              exact hj (by kernel_rfl) (stsub_consB rfl (by clear hj; first | rfl | (simp only [q1, Bool.and_true, Bool.true_and, Bool.false_and, Bool.and_false, Bool.or_true, Bool.true_or, Bool.or_false, Bool.false_or, Bool.not_true, Bool.not_false]; done) | (simp [q1]; done) | (simp at q1; done) | (simp [q1] <;> omega) | (exfalso; simp at q1; omega)) stsub_nil)
          refine JL_nil ?_
          refine JE_seq ?_
          -- stop: cond
          refine JC_cond rfl (fun h5 => ?_) (fun h5 => ?_)
          · rw [if_pos h5] at hrs
            refine JC_region ?_
            refine JL_pd rfl (det_fieldAddr rfl fo_26_2) ?_
            refine JL_dt rfl (det_loadK rfl Try.isAgg23 rfl) ?_
            refine JL_pd rfl (det_move rfl) ?_
            refine JL_step rfl rfl rfl (jo_buildSlice rfl (bsl_23_1_0 _)) fun b51 => ?_
            refine JL_step rfl rfl rfl (jo_append el_23 rfl rfl rfl rfl (by omega)) fun b52 => ?_
            refine JL_pd rfl (det_fieldAddr rfl fo_26_2) ?_
            refine JL_step0 rfl rfl (jo_store rfl rfl rfl (by first | (simp only [splice_norm]; done) | (simp only [splice_norm]; rfl) | rfl) Try.sizeOf23 rfl rfl) fun _ => ?_
            refine JL_nil ?_
            refine JE_block ?_
            refine JE_seq ?_
            refine JC_region ?_
            refine JL_pd rfl (det_move rfl) ?_
            refine JL_pd rfl (det_add rfl rfl ⟨by omega, by omega⟩) ?_
            refine JL_pd rfl (det_assign rfl) ?_
            refine JL_nil ?_
            -- stop: end
            refine JE_roundF hK (i + 1, .slice (some ⟨b52.1, 0, none⟩) ((runL m k i).length + 1) b52.2) (by simp only; omega) (by simp only; omega) (stsub_consI rfl (by simp only; omega) stsub_nil) (ht_bx rfl (ht_ow (by simp only; rw [hrs]; simp) (by simp only; rw [hrs]; simp [encI]) ht_nil))
          · rw [if_neg (by rw [h5]; decide), List.append_nil] at hrs
            refine JC_skip ?_
            refine JE_block ?_
            refine JE_seq ?_
            refine JC_region ?_
            refine JL_pd rfl (det_move rfl) ?_
            refine JL_pd rfl (det_add rfl rfl ⟨by omega, by omega⟩) ?_
            refine JL_pd rfl (det_assign rfl) ?_
            refine JL_nil ?_
            -- stop: end
            refine JE_roundF hK (i + 1, u) (by simp only; omega) (by simp only; omega) (stsub_consI rfl (by simp only; omega) stsub_nil) (ht_bx rfl (ht_ow (by simp only; rw [hrs]) (by simp only; rw [hrs]) ht_nil))
        · obtain rfl : i = m.states.toNat := by omega
          refine JC_slice (enc := encI) (v := u) (runM m k).running noFp rfl rfl ?_
          rintro av cv rfl
          refine JC_exit ?_
          refine JE_seq_exit ?_
          refine JE_then_exit ?_
          refine JE_block_here ?_
          refine JE_block ?_
          refine JE_seq ?_
          refine JC_seq ?_
          refine JC_seq ?_
          refine JC_region ?_
          refine JL_dt rfl (det_loadKA rfl Try.isAgg26 Try.sizeOf26 rfl rfl) ?_
          refine JL_step rfl rfl rfl (jo_callv rfl rfl Try.call38 rfl (ready_j (runM m k) ⟨a.sa, av, a.ka, a.sc, cv, a.kc⟩)) fun _ => ?_
          refine JL_pd rfl (det_not rfl) ?_
          refine JL_nil ?_
          refine JE_seq ?_
          -- stop: cond
          refine JC_cond rfl (fun h9 => ?_) (fun h9 => ?_)
          · refine JC_seq ?_
            refine JC_region ?_
            refine JL_step rfl rfl rfl (jo_callv rfl rfl Try.call18 rfl (wakes_j)) fun _ => ?_
            refine JL_pd rfl (det_assign rfl) ?_
            refine JL_nil ?_
            refine JE_seq ?_
            refine JC_ret ?_
            refine JE_seq_ret ?_
            -- stop: out
            refine JE_out (.inl rfl) () (results1 Try.results7 (res_tmp rfl)) rfl (List.Perm.refl _) (fun _ _ => trivial)
          · have hrx : readyB (runM m k) = true := by simpa using h9
            have hex := ready_v hrx
            have Vx := valid_of hex
            have p1 := Vx.ns; have p2 := Vx.nl; have p3 := Vx.nr
            have hmore := run_more V k Vx
            have q1 := fun b : MA => Stands_jo m b he
            have q2 := fun b : MA => Stands_jo (runM m k) b hex
            have q3 := safe_j m a he
            have q4 := safe_j (runM m k) ⟨a.sa, av, a.ka, a.sc, cv, a.kc⟩ hex
            have r1 := reach_len m m.locks
            have r2 := reach_len (runM m k) ((runM m k)).locks
            generalize reachL m m.locks = L1 at hmore q1 r1
            generalize reachL (runM m k) ((runM m k)).locks = L2 at hmore q2 r2
            generalize safeB m = S1 at hmore q3
            generalize safeB (runM m k) = S2 at hmore q4
            obtain ⟨hsub, hsafe⟩ := hmore
            refine JC_skip ?_
            refine JE_seq ?_
            refine JC_seq ?_
            refine JC_region ?_
            refine JL_dt rfl (det_loadKA rfl Try.isAgg26 Try.sizeOf26 rfl rfl) ?_
            -- stop: op  1 t80 := (call (Call (value f20) (t79) (26)))   <0>   153
            refine JL_step rfl rfl rfl (jo_call rfl rfl Try.call20 rfl (Machine_j m a (by omega) (by omega) (by omega))) fun y1 => ?_
            -- stop: op  2 t81 := (call (Call (value f21) (t80) (34)))   <1 1>   153
            refine JL_step rfl rfl rfl (jo_call rfl rfl Try.call21 rfl (q1 y1)) fun ⟨la1, lc1⟩ => ?_
            refine JL_pd rfl (det_move rfl) ?_
            refine JL_pd rfl (det_extract rfl rfl) ?_
            refine JL_pd rfl (det_extract rfl rfl) ?_
            refine JL_pd rfl (det_assign rfl) ?_
            refine JL_pd rfl (det_assign rfl) ?_
            refine JL_nil ?_
            refine JE_seq ?_
            refine JC_seq ?_
            refine JC_region ?_
            refine JL_dt rfl (det_loadKA rfl Try.isAgg26 Try.sizeOf26 rfl rfl) ?_
            -- stop: op  1 t86 := (call (Call (value f20) (t85) (26)))   <0>   154
            refine JL_step rfl rfl rfl (jo_call rfl rfl Try.call20 rfl (Machine_j (runM m k) ⟨a.sa, av, a.ka, a.sc, cv, a.kc⟩ (by omega) (by omega) (by omega))) fun y2 => ?_
            -- stop: op  2 t87 := (call (Call (value f21) (t86) (34)))   <1 1>   154
            refine JL_step rfl rfl rfl (jo_call rfl rfl Try.call21 rfl (q2 y2)) fun ⟨la2, lc2⟩ => ?_
            refine JL_pd rfl (det_move rfl) ?_
            refine JL_pd rfl (det_extract rfl rfl) ?_
            refine JL_pd rfl (det_extract rfl rfl) ?_
            refine JL_pd rfl (det_assign rfl) ?_
            refine JL_pd rfl (det_assign rfl) ?_
            refine JL_nil ?_
            refine JE_seq ?_
            refine JC_seq ?_
            refine JC_region ?_
            refine JL_dt rfl (det_loadKA rfl Try.isAgg26 Try.sizeOf26 rfl rfl) ?_
            -- stop: op  1 t92 := (call (Call (value f40) (t91) (26)))   <0>   155
            refine JL_step rfl rfl rfl (jo_callv rfl rfl Try.call40 rfl (q3)) fun _ => ?_
            refine JL_pd rfl (det_move rfl) ?_
            refine JL_pd rfl (det_extract rfl rfl) ?_
            refine JL_pd rfl (det_extract rfl rfl) ?_
            refine JL_pd rfl (det_assign rfl) ?_
            refine JL_pd rfl (det_assign rfl) ?_
            refine JL_nil ?_
            refine JE_seq ?_
            refine JC_seq ?_
            refine JC_region ?_
            refine JL_dt rfl (det_loadKA rfl Try.isAgg26 Try.sizeOf26 rfl rfl) ?_
            -- stop: op  1 t97 := (call (Call (value f40) (t96) (26)))   <0>   156
            refine JL_step rfl rfl rfl (jo_callv rfl rfl Try.call40 rfl (q4)) fun _ => ?_
            refine JL_pd rfl (det_move rfl) ?_
            refine JL_pd rfl (det_extract rfl rfl) ?_
            refine JL_pd rfl (det_extract rfl rfl) ?_
            refine JL_pd rfl (det_assign rfl) ?_
            refine JL_pd rfl (det_assign rfl) ?_
            refine JL_nil ?_
            refine JE_seq ?_
            refine JC_seq ?_
            refine JC_seq ?_
            refine JC_region ?_
            refine JL_pd rfl (det_move rfl) ?_
            refine JL_pd rfl (det_neq rfl rfl) ?_
            refine JL_pd rfl (det_move rfl) ?_
            -- stop: guard 2
            skip
            refine JL_is (d0 := 102) false rfl (by (first | rfl | decide)) (fun g1 => ?_)
            refine JL_guard rfl rfl g1 ?_
            refine JL_pd rfl (det_move rfl) ?_
            refine JL_guard rfl rfl g1 ?_
            refine JL_pd rfl (det_neq rfl rfl) ?_
            refine JL_pd rfl (det_pick_f rfl g1 rfl) ?_
            refine JL_pd rfl (det_move rfl) ?_
            refine JL_is (d0 := 106) false rfl (by (first | rfl | decide)) (fun g2 => ?_)
            refine JL_guard rfl rfl g2 ?_
            refine JL_pd rfl (det_move rfl) ?_
            refine JL_guard rfl rfl g2 ?_
            refine JL_pd rfl (det_not rfl) ?_
            refine JL_pd rfl (det_pick_f rfl g2 rfl) ?_
            refine JL_pd rfl (det_move rfl) ?_
            refine JL_is (d0 := 110) false rfl (by (first | rfl | decide)) (fun g3 => ?_)
            refine JL_guard rfl rfl g3 ?_
            refine JL_pd rfl (det_move rfl) ?_
            refine JL_guard rfl rfl g3 ?_
            refine JL_pd rfl (det_not rfl) ?_
            refine JL_pd rfl (det_pick_f rfl g3 rfl) ?_
            refine JL_nil ?_
            refine JE_seq ?_
            -- stop: cond
            refine JC_cond rfl (fun h10 => ?_) (fun h10 => ?_)
            · cases h10
            · refine JC_skip ?_
              refine JE_seq ?_
              refine JC_seq ?_
              refine JC_seq ?_
              refine JC_region ?_
              refine JL_pd rfl (det_move rfl) ?_
              refine JL_pd rfl (det_rem rfl rfl (by omega)) ?_
              refine JL_pd rfl (det_eql rfl rfl) ?_
              refine JL_nil ?_
              refine JE_seq ?_
              -- stop: cond
              refine JC_cond rfl (fun h11 => ?_) (fun h11 => ?_)
              · simp [hwh] at h11
              · refine JC_skip ?_
                refine JE_seq ?_
                refine JC_seq ?_
                refine JC_region ?_
                refine JL_pd rfl (det_move rfl) ?_
                refine JL_pd rfl (det_move rfl) ?_
                refine JL_step rfl rfl rfl (jo_callv rfl rfl Try.call41 rfl (subset_j _ _ _ _ L1 L2 (by omega) (by omega))) fun _ => ?_
                refine JL_pd rfl (det_move rfl) ?_
                -- stop: guard 3
                refine JL_is (d0 := 133) true rfl (by exact hsub) (fun g1 => ?_)
                refine JL_guard rfl rfl g1 ?_
                refine JL_pd rfl (det_move rfl) ?_
                refine JL_guard rfl rfl g1 ?_
                refine JL_pd rfl (det_move rfl) ?_
                -- stop: guard 5
                cases S1 with
                | true =>
                  refine JL_is (d0 := 135) true rfl (by rfl) (fun g2 => ?_)
                  refine JL_skip rfl rfl g2 rfl ?_
                  refine JL_skip rfl rfl g2 rfl ?_
                  refine JL_guard rfl rfl g1 ?_
                  refine JL_pd rfl (det_pick_t rfl g2 rfl) ?_
                  refine JL_pd rfl (det_pick_t rfl g1 rfl) ?_
                  refine JL_pd rfl (det_move rfl) ?_
                  -- stop: guard 10
                  skip
                  refine JL_is (d0 := 140) true rfl (by rfl) (fun g1 => ?_)
                  refine JL_guard rfl rfl g1 ?_
                  refine JL_step rfl rfl rfl (jo_callv rfl rfl Try.call18 rfl (wakes_j)) fun _ => ?_
                  refine JL_pd rfl (det_pick_t rfl g1 rfl) ?_
                  refine JL_pd rfl (det_assign rfl) ?_
                  refine JL_nil ?_
                  refine JE_seq ?_
                  refine JC_ret ?_
                  -- stop: out
                  refine JE_out (.inl rfl) () (results1 Try.results7 (res_tmp rfl)) rfl (List.Perm.refl _) (fun _ _ => trivial)
                | false =>
                  have hs2 : S2 = false := by
                    cases S2 with
                    | false => rfl
                    | true => have := hsafe rfl; cases this
                  subst hs2
                  refine JL_is (d0 := 135) false rfl (by rfl) (fun g2 => ?_)
                  refine JL_guard rfl rfl g2 ?_
                  refine JL_pd rfl (det_move rfl) ?_
                  refine JL_guard rfl rfl g2 ?_
                  refine JL_pd rfl (det_not rfl) ?_
                  refine JL_guard rfl rfl g1 ?_
                  refine JL_pd rfl (det_pick_f rfl g2 rfl) ?_
                  refine JL_pd rfl (det_pick_t rfl g1 rfl) ?_
                  refine JL_pd rfl (det_move rfl) ?_
                  -- stop: guard 10
                  skip
                  refine JL_is (d0 := 140) true rfl (by rfl) (fun g1 => ?_)
                  refine JL_guard rfl rfl g1 ?_
                  refine JL_step rfl rfl rfl (jo_callv rfl rfl Try.call18 rfl (wakes_j)) fun _ => ?_
                  refine JL_pd rfl (det_pick_t rfl g1 rfl) ?_
                  refine JL_pd rfl (det_assign rfl) ?_
                  refine JL_nil ?_
                  refine JE_seq ?_
                  refine JC_ret ?_
                  -- stop: out
                  refine JE_out (.inl rfl) () (results1 Try.results7 (res_tmp rfl)) rfl (List.Perm.refl _) (fun _ _ => trivial)
theorem CycleMore_j (m : Mc) (a : MA) (wh : Int) (lk : Lk) (sp : Sp) (h0 : 0 ≤ wh) (h255 : wh ≤ 255) : Cv Try.prog 7 [.agg #[I m.states, .slice a.sa m.steps.length a.sc, .slice a.ra m.running.length a.rc, .slice a.ka m.locks.length a.kc], .int .u8 wh, .agg #[I lk.sg, I lk.at_], .agg #[I sp.fr, I sp.to_, I sp.sg]] (KMc m a) (.bool true) := by
  cases hr : readyB m with
  | true =>
    have he := ready_v hr
    have hb : 0 ≤ wh.tmod 3 ∧ wh.tmod 3 ≤ 2 := by rw [Int.tmod_eq_emod_of_nonneg h0]; omega
    by_cases e0 : wh.tmod 3 = 0
    · exact CycleMore_0 m a wh lk sp he h0 h255 e0
    · by_cases e1 : wh.tmod 3 = 1
      · exact CycleMore_1 m a wh lk sp he h0 h255 e1
      · exact CycleMore_2 m a wh lk sp he h0 h255 (by omega)
  | false =>
    refine Cx_of Try.func7 rfl Try.ntmps7 rfl fun w0 M0 => ?_
    refine JC_seq ?_
    refine JC_region ?_
    refine JL_step rfl rfl rfl (jo_box rfl rfl) fun b4 => ?_
    refine JL_step rfl rfl rfl (jo_box rfl rfl) fun b6 => ?_
    refine JL_step rfl rfl rfl (jo_box rfl rfl) fun b7 => ?_
    refine JL_pd rfl (det_assign rfl) ?_
    refine JL_nil ?_
    refine JE_seq ?_
    refine JC_seq ?_
    refine JC_seq ?_
    refine JC_region ?_
    refine JL_dt rfl (det_loadKA rfl Try.isAgg26 Try.sizeOf26 rfl rfl) ?_
    refine JL_step rfl rfl rfl (jo_callv rfl rfl Try.call38 rfl (ready_j m a)) fun _ => ?_
    refine JL_pd rfl (det_not rfl) ?_
    refine JL_nil ?_
    refine JE_seq ?_
    -- stop: cond
    refine JC_cond rfl (fun h1 => ?_) (fun h1 => ?_)
    · refine JC_seq ?_
      refine JC_region ?_
      refine JL_step rfl rfl rfl (jo_callv rfl rfl Try.call18 rfl (wakes_j)) fun _ => ?_
      refine JL_pd rfl (det_assign rfl) ?_
      refine JL_nil ?_
      refine JE_seq ?_
      refine JC_ret ?_
      refine JE_seq_ret ?_
      -- stop: out
      refine JE_out (.inl rfl) () (results1 Try.results7 (res_tmp rfl)) rfl (List.Perm.refl _) (fun _ _ => trivial)
    · rw [hr] at h1; cases h1
end Go.Proofs.Ytgbfjcgjcnndpaa

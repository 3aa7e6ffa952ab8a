/- The statements about cycle: CycleNothing. -/
import Derived.Test.YtgbfjcgjcnndpaaC39
set_option linter.unusedSimpArgs false
set_option linter.unusedVariables false
namespace Go.Proofs.Ytgbfjcgjcnndpaa
open Go.RowKit Go.Shelf

structure FaultOk (m : Mc) : Prop where
  ns : m.steps.length ≤ 24
  nl : m.locks.length ≤ 40
  s : 1 ≤ m.states ∧ m.states ≤ 8
  st : ∀ x ∈ m.steps, okStep m x = true
  run : ∀ n ∈ m.running, 0 ≤ n ∧ n ≤ m.states - 1
  lk : ∀ l ∈ m.locks, okLock m l = true
  up : rising m.running = true
theorem fault_iff {m : Mc} : fault m = 0 ↔ FaultOk m := by
  constructor
  · intro h
    unfold fault at h
    split at h
    · omega
    split at h
    · rename_i h1 h2
      simp only [Bool.and_eq_true, inI, decide_eq_true_eq, List.all_eq_true] at h2
      obtain ⟨⟨⟨⟨a, b⟩, c⟩, d⟩, e⟩ := h2
      exact ⟨by omega, by omega, a, b, c, d, e⟩
    · omega
  · rintro ⟨a, b, c, d, e, f, g⟩
    unfold fault
    rw [if_neg (by omega), if_pos]
    simp only [Bool.and_eq_true, inI, decide_eq_true_eq, List.all_eq_true]
    exact ⟨⟨⟨⟨c, d⟩, e⟩, f⟩, g⟩
abbrev stillM (m : Mc) : Mc := ⟨m.states, m.steps, [], m.locks⟩
abbrev stuckM (m : Mc) : Mc := ⟨m.states, m.steps.filter fun s => !decide (s.fr = 0), m.running, [⟨6, 0⟩]⟩
def shutL (n : Nat) : List Lk := (List.range n).map fun i : Nat => ⟨6, (i : Int)⟩
abbrev shutM (m : Mc) : Mc := ⟨m.states, m.steps, m.running, shutL m.states.toNat⟩
theorem still_f {m : Mc} (h : FaultOk m) : fault (stillM m) = 0 := fault_iff.2 ⟨h.ns, h.nl, h.s, h.st, fun n hn => (by cases hn), h.lk, rfl⟩
theorem stuck_f {m : Mc} (h : FaultOk m) : fault (stuckM m) = 0 := fault_iff.2 ⟨Nat.le_trans (List.length_filter_le _ _) h.ns, by simp, h.s, fun x hx => h.st x (List.mem_filter.1 hx).1, h.run, fun l hl => by
  rw [List.mem_singleton.1 hl]
  have := h.s
  unfold okLock inI
  rw [if_pos (.inl rfl), decide_eq_true_eq]
  exact ⟨Int.le_refl 0, by show (0 : Int) ≤ m.states - 1; omega⟩, h.up⟩
theorem shut_f {m : Mc} (h : FaultOk m) : fault (shutM m) = 0 := fault_iff.2 ⟨h.ns, by have := h.s; show (shutL _).length ≤ 40; unfold shutL; rw [List.length_map, List.length_range]; omega, h.s, h.st, h.run, fun l hl => by
  obtain ⟨i, hi, rfl⟩ := List.mem_map.1 hl
  have hi := List.mem_range.1 hi
  have := h.s
  unfold okLock inI
  rw [if_pos (.inl rfl), decide_eq_true_eq]
  exact ⟨by simp only; omega, by show (i : Int) ≤ m.states - 1; omega⟩, h.up⟩
theorem safe_no {m : Mc} (V : Valid m) (h : ∀ s, Rch m m.locks s → dangerB m s = false) : safeB m = true := by
  unfold safeB
  cases hw : wayO m m.locks (dangerB m) with
  | none => rfl
  | some l =>
    obtain ⟨t, ht, hg⟩ := (wayO_yes V hw).run
    have := h t (ht.rch (wayO_yes V hw).ok .zero)
    rw [hg] at this; cases this
theorem stuck_rch {m : Mc} {s : Sd} (h : Rch (stuckM m) (stuckM m).locks s) : s = ⟨0, 0⟩ := by
  induction h with
  | zero => rfl
  | @step s t _ hst ih =>
    subst ih
    obtain ⟨g, hg, ht⟩ := hst
    exfalso
    unfold nextL at ht
    split at ht
    · cases ht
    · rename_i hno
      unfold moves at ht
      split at ht
      · rename_i h6
        apply hno
        unfold lockAt
        rw [if_pos (.inl h6), h6]
        exact List.mem_singleton.2 rfl
      split at ht
      · rw [if_pos rfl] at ht; cases ht
      · simp only [stepTo, List.mem_map, List.mem_filter] at ht
        obtain ⟨x, ⟨⟨_, h1⟩, h2⟩, _⟩ := ht
        simp only [Bool.and_eq_true, decide_eq_true_eq] at h2
        simp [h2.1] at h1
theorem stuck_reach {m : Mc} (V : Valid (stuckM m)) : reachL (stuckM m) (stuckM m).locks = [⟨0, 0⟩] := by
  have hm : ∀ s, s ∈ reachL (stuckM m) (stuckM m).locks ↔ s = ⟨0, 0⟩ := fun s => by
    rw [mem_reachL V]
    exact ⟨stuck_rch, fun e => e ▸ .zero⟩
  have hnd : (reachL (stuckM m) (stuckM m).locks).Nodup := by
    obtain ⟨p, hp⟩ := levL_form (stuckM m) (stuckM m).locks 24
    show (levL _ _ 24).Nodup
    rw [hp]; exact nodup_all.filter _
  generalize reachL (stuckM m) (stuckM m).locks = L at hm hnd
  cases L with
  | nil => have := (hm ⟨0, 0⟩).2 rfl; cases this
  | cons x r =>
    obtain rfl := (hm x).1 (by simp)
    cases r with
    | nil => rfl
    | cons y r =>
      obtain rfl := (hm y).1 (by simp)
      simp at hnd
theorem shut_rch {m : Mc} (V : Valid (shutM m)) {s : Sd} (h : Rch (shutM m) (shutM m).locks s) : s.sp = 0 := by
  induction h with
  | zero => rfl
  | @step s t hs hst ih =>
    obtain ⟨a, b, _, _⟩ := hs.inM V
    obtain ⟨g, hg, ht⟩ := hst
    unfold nextL at ht
    split at ht
    · cases ht
    · rename_i hno
      unfold moves at ht
      split at ht
      · rename_i h6
        exfalso
        apply hno
        unfold lockAt
        rw [if_pos (.inl h6), h6]
        have b' : s.st < m.states := b
        exact List.mem_map.2 ⟨s.st.toNat, List.mem_range.2 (by omega), Lk.ext'.2 ⟨rfl, by simp only; omega⟩⟩
      split at ht
      · first | (rw [if_pos ih] at ht; cases ht) | cases ht
      · simp only [stepTo, List.mem_map] at ht
        obtain ⟨x, _, rfl⟩ := ht
        exact ih
theorem shutL_succ (n : Nat) : shutL (n + 1) = shutL n ++ [⟨6, (n : Int)⟩] := by
  unfold shutL; rw [List.range_succ, List.map_append]; rfl
theorem shutL_len (n : Nat) : (shutL n).length = n := by unfold shutL; rw [List.length_map, List.length_range]
set_option maxRecDepth 100000 in
set_option maxHeartbeats 2000000 in
theorem CycleNothing_r (m : Mc) (a : MA) (he : fault m = 0) : Cv Try.prog 9 [.agg #[I m.states, .slice a.sa m.steps.length a.sc, .slice a.ra m.running.length a.rc, .slice a.ka m.locks.length a.kc]] (KMc m a) (.bool true) := by
  have V := valid_of he
  have F := fault_iff.1 he
  have hl1 := V.ns; have hl2 := V.nl; have hl3 := V.nr; have s1 := V.s1; have s2 := V.s2
  have hrb := ready_of he
  have f1 := still_f F
  have f2 := stuck_f F
  have f3 := shut_f F
  have V2 := valid_of f2
  have V3 := valid_of f3
  have g1 : safeB (stillM m) = true := safe_no (valid_of f1) fun s _ => by unfold dangerB; simp
  have g2 : safeB (stuckM m) = true := safe_no V2 fun s hs => by rw [stuck_rch hs]; rfl
  have hs1 := fun b : MA => safe_j (stillM m) b f1
  have hs2 := fun b : MA => safe_j (stuckM m) b f2
  rw [g1] at hs1
  rw [g2] at hs2
  have hst2 := fun b : MA => Stands_jo (stuckM m) b f2
  rw [stuck_reach V2] at hst2
  have hst3 := fun b : MA => Stands_jo (shutM m) b f3
  have hsp := fun s (h : s ∈ reachL (shutM m) (shutM m).locks) => shut_rch V3 ((mem_reachL V3).1 h)
  have hrl := reach_len (shutM m) (shutM m).locks
  generalize reachL (shutM m) (shutM m).locks = L at hst3 hsp hrl
  refine Cx_of Try.func9 rfl Try.ntmps9 rfl fun w0 M0 => ?_
  refine JC_seq ?_
  refine JC_region ?_
  refine JL_step rfl rfl rfl (jo_box rfl rfl) fun b1 => ?_
  refine JL_pd rfl (det_assign rfl) ?_
  refine JL_nil ?_
  refine JE_seq ?_
  refine JC_seq ?_
  refine JC_seq ?_
  refine JC_region ?_
  refine JL_dt rfl (det_loadKA rfl Try.isAgg26 Try.sizeOf26 rfl rfl) ?_
  refine JL_step rfl rfl rfl (jo_callv rfl rfl Try.call38 rfl (ready_j m a)) fun _ => ?_
  refine JL_pd rfl (det_not rfl) ?_
  refine JL_nil ?_
  refine JE_seq ?_
  -- stop: cond
  refine JC_cond rfl (fun h1 => ?_) (fun h1 => ?_)
  · rw [hrb] at h1; cases h1
  · refine JC_keep b1 noFp ?_
    refine JC_skip ?_
    refine JE_seq ?_
    refine JC_seq ?_
    -- stop: draw
    refine JC_cutF (γ := Nat × Nat × Nat) (fun _ => True) (fun (b3, b4, b5) => [(3, pt b3), (4, pt b4), (5, pt b5)]) (fun (b3, b4, b5) => [bx b3 [I m.states, .slice a.sa m.steps.length a.sc, .slice a.ra m.running.length a.rc, .slice a.ka m.locks.length a.kc], bx b4 [I m.states, .slice a.sa m.steps.length a.sc, .slice a.ra m.running.length a.rc, .slice a.ka m.locks.length a.kc], bx b5 [I m.states, .slice a.sa m.steps.length a.sc, .slice a.ra m.running.length a.rc, .slice a.ka m.locks.length a.kc]]) [] (fun K hK => ?_) (fun (b3, b4, b5) _ => ?_)
    · refine JC_draw0 (by kernel_rfl) ?_
      refine JA_dt (i := 0) rfl (by kernel_rfl) (by kernel_rfl) rfl rfl (det_loadKA rfl Try.isAgg26 Try.sizeOf26 rfl rfl) ?_
      refine JA_dt (i := 1) rfl (by kernel_rfl) (by kernel_rfl) rfl rfl (det_loadKA rfl Try.isAgg26 Try.sizeOf26 rfl rfl) ?_
      refine JA_dt (i := 2) rfl (by kernel_rfl) (by kernel_rfl) rfl rfl (det_loadKA rfl Try.isAgg26 Try.sizeOf26 rfl rfl) ?_
      refine JA_ready (rs := [3, 4, 5]) (by kernel_rfl) rfl ?_
      refine JAl_consH (i := 3) rfl rfl (jo_alloc0 Try.zeroValue26 rfl) (fun _ => ⟨HIn.sub, Knows.know⟩) (fun b3 => ?_) ?_
      · refine JA_ready (rs := [4, 5]) (by kernel_rfl) rfl ?_
        refine JAl_consH (i := 4) rfl rfl (jo_alloc0 Try.zeroValue26 rfl) (fun _ => ⟨HIn.sub, Knows.know⟩) (fun b4 => ?_) ?_
        · refine JA_oneH (i := 5) (by kernel_rfl) rfl rfl (jo_alloc0 Try.zeroValue26 rfl) (fun _ => ⟨HIn.sub, Knows.know⟩) fun b5 => ?_
          refine JA_oneH (i := 6) (by kernel_rfl) rfl rfl (jo_store rfl rfl rfl (by first | (simp only [splice_norm]; done) | (simp only [splice_norm]; rfl) | rfl) Try.sizeOf26 rfl rfl) (fun _ => ⟨HIn.sub, Knows.know⟩) fun _ => ?_
          refine JA_oneH (i := 7) (by kernel_rfl) rfl rfl (jo_store rfl rfl rfl (by first | (simp only [splice_norm]; done) | (simp only [splice_norm]; rfl) | rfl) Try.sizeOf26 rfl rfl) (fun _ => ⟨HIn.sub, Knows.know⟩) fun _ => ?_
          refine JA_oneH (i := 8) (by kernel_rfl) rfl rfl (jo_store rfl rfl rfl (by first | (simp only [splice_norm]; done) | (simp only [splice_norm]; rfl) | rfl) Try.sizeOf26 rfl rfl) (fun _ => ⟨HIn.sub, Knows.know⟩) fun _ => ?_
          refine JA_done (by kernel_rfl) ?_
          exact JE_cutF hK (b3, b4, b5) trivial (stsub_cons rfl (stsub_cons rfl (stsub_cons rfl stsub_nil))) (ht_bx rfl (ht_bx rfl (ht_bx rfl ht_nil)))
        refine JAl_consH (i := 5) rfl rfl (jo_alloc0 Try.zeroValue26 rfl) (fun _ => ⟨HIn.sub, Knows.know⟩) (fun b5 => ?_) ?_
        · refine JA_oneH (i := 4) (by kernel_rfl) rfl rfl (jo_alloc0 Try.zeroValue26 rfl) (fun _ => ⟨HIn.sub, Knows.know⟩) fun b4 => ?_
          refine JA_oneH (i := 6) (by kernel_rfl) rfl rfl (jo_store rfl rfl rfl (by first | (simp only [splice_norm]; done) | (simp only [splice_norm]; rfl) | rfl) Try.sizeOf26 rfl rfl) (fun _ => ⟨HIn.sub, Knows.know⟩) fun _ => ?_
          refine JA_oneH (i := 7) (by kernel_rfl) rfl rfl (jo_store rfl rfl rfl (by first | (simp only [splice_norm]; done) | (simp only [splice_norm]; rfl) | rfl) Try.sizeOf26 rfl rfl) (fun _ => ⟨HIn.sub, Knows.know⟩) fun _ => ?_
          refine JA_oneH (i := 8) (by kernel_rfl) rfl rfl (jo_store rfl rfl rfl (by first | (simp only [splice_norm]; done) | (simp only [splice_norm]; rfl) | rfl) Try.sizeOf26 rfl rfl) (fun _ => ⟨HIn.sub, Knows.know⟩) fun _ => ?_
          refine JA_done (by kernel_rfl) ?_
          exact JE_cutF hK (b3, b4, b5) trivial (stsub_cons rfl (stsub_cons rfl (stsub_cons rfl stsub_nil))) (ht_bx rfl (ht_bx rfl (ht_bx rfl ht_nil)))
        exact JAl_nil
      refine JAl_consH (i := 4) rfl rfl (jo_alloc0 Try.zeroValue26 rfl) (fun _ => ⟨HIn.sub, Knows.know⟩) (fun b4 => ?_) ?_
      · refine JA_ready (rs := [3, 5]) (by kernel_rfl) rfl ?_
        refine JAl_consH (i := 3) rfl rfl (jo_alloc0 Try.zeroValue26 rfl) (fun _ => ⟨HIn.sub, Knows.know⟩) (fun b3 => ?_) ?_
        · refine JA_oneH (i := 5) (by kernel_rfl) rfl rfl (jo_alloc0 Try.zeroValue26 rfl) (fun _ => ⟨HIn.sub, Knows.know⟩) fun b5 => ?_
          refine JA_oneH (i := 6) (by kernel_rfl) rfl rfl (jo_store rfl rfl rfl (by first | (simp only [splice_norm]; done) | (simp only [splice_norm]; rfl) | rfl) Try.sizeOf26 rfl rfl) (fun _ => ⟨HIn.sub, Knows.know⟩) fun _ => ?_
          refine JA_oneH (i := 7) (by kernel_rfl) rfl rfl (jo_store rfl rfl rfl (by first | (simp only [splice_norm]; done) | (simp only [splice_norm]; rfl) | rfl) Try.sizeOf26 rfl rfl) (fun _ => ⟨HIn.sub, Knows.know⟩) fun _ => ?_
          refine JA_oneH (i := 8) (by kernel_rfl) rfl rfl (jo_store rfl rfl rfl (by first | (simp only [splice_norm]; done) | (simp only [splice_norm]; rfl) | rfl) Try.sizeOf26 rfl rfl) (fun _ => ⟨HIn.sub, Knows.know⟩) fun _ => ?_
          refine JA_done (by kernel_rfl) ?_
          exact JE_cutF hK (b3, b4, b5) trivial (stsub_cons rfl (stsub_cons rfl (stsub_cons rfl stsub_nil))) (ht_bx rfl (ht_bx rfl (ht_bx rfl ht_nil)))
        refine JAl_consH (i := 5) rfl rfl (jo_alloc0 Try.zeroValue26 rfl) (fun _ => ⟨HIn.sub, Knows.know⟩) (fun b5 => ?_) ?_
        · refine JA_oneH (i := 3) (by kernel_rfl) rfl rfl (jo_alloc0 Try.zeroValue26 rfl) (fun _ => ⟨HIn.sub, Knows.know⟩) fun b3 => ?_
          refine JA_oneH (i := 6) (by kernel_rfl) rfl rfl (jo_store rfl rfl rfl (by first | (simp only [splice_norm]; done) | (simp only [splice_norm]; rfl) | rfl) Try.sizeOf26 rfl rfl) (fun _ => ⟨HIn.sub, Knows.know⟩) fun _ => ?_
          refine JA_oneH (i := 7) (by kernel_rfl) rfl rfl (jo_store rfl rfl rfl (by first | (simp only [splice_norm]; done) | (simp only [splice_norm]; rfl) | rfl) Try.sizeOf26 rfl rfl) (fun _ => ⟨HIn.sub, Knows.know⟩) fun _ => ?_
          refine JA_oneH (i := 8) (by kernel_rfl) rfl rfl (jo_store rfl rfl rfl (by first | (simp only [splice_norm]; done) | (simp only [splice_norm]; rfl) | rfl) Try.sizeOf26 rfl rfl) (fun _ => ⟨HIn.sub, Knows.know⟩) fun _ => ?_
          refine JA_done (by kernel_rfl) ?_
          exact JE_cutF hK (b3, b4, b5) trivial (stsub_cons rfl (stsub_cons rfl (stsub_cons rfl stsub_nil))) (ht_bx rfl (ht_bx rfl (ht_bx rfl ht_nil)))
        exact JAl_nil
      refine JAl_consH (i := 5) rfl rfl (jo_alloc0 Try.zeroValue26 rfl) (fun _ => ⟨HIn.sub, Knows.know⟩) (fun b5 => ?_) ?_
      · refine JA_ready (rs := [3, 4]) (by kernel_rfl) rfl ?_
        refine JAl_consH (i := 3) rfl rfl (jo_alloc0 Try.zeroValue26 rfl) (fun _ => ⟨HIn.sub, Knows.know⟩) (fun b3 => ?_) ?_
        · refine JA_oneH (i := 4) (by kernel_rfl) rfl rfl (jo_alloc0 Try.zeroValue26 rfl) (fun _ => ⟨HIn.sub, Knows.know⟩) fun b4 => ?_
          refine JA_oneH (i := 6) (by kernel_rfl) rfl rfl (jo_store rfl rfl rfl (by first | (simp only [splice_norm]; done) | (simp only [splice_norm]; rfl) | rfl) Try.sizeOf26 rfl rfl) (fun _ => ⟨HIn.sub, Knows.know⟩) fun _ => ?_
          refine JA_oneH (i := 7) (by kernel_rfl) rfl rfl (jo_store rfl rfl rfl (by first | (simp only [splice_norm]; done) | (simp only [splice_norm]; rfl) | rfl) Try.sizeOf26 rfl rfl) (fun _ => ⟨HIn.sub, Knows.know⟩) fun _ => ?_
          refine JA_oneH (i := 8) (by kernel_rfl) rfl rfl (jo_store rfl rfl rfl (by first | (simp only [splice_norm]; done) | (simp only [splice_norm]; rfl) | rfl) Try.sizeOf26 rfl rfl) (fun _ => ⟨HIn.sub, Knows.know⟩) fun _ => ?_
          refine JA_done (by kernel_rfl) ?_
          exact JE_cutF hK (b3, b4, b5) trivial (stsub_cons rfl (stsub_cons rfl (stsub_cons rfl stsub_nil))) (ht_bx rfl (ht_bx rfl (ht_bx rfl ht_nil)))
        refine JAl_consH (i := 4) rfl rfl (jo_alloc0 Try.zeroValue26 rfl) (fun _ => ⟨HIn.sub, Knows.know⟩) (fun b4 => ?_) ?_
        · refine JA_oneH (i := 3) (by kernel_rfl) rfl rfl (jo_alloc0 Try.zeroValue26 rfl) (fun _ => ⟨HIn.sub, Knows.know⟩) fun b3 => ?_
          refine JA_oneH (i := 6) (by kernel_rfl) rfl rfl (jo_store rfl rfl rfl (by first | (simp only [splice_norm]; done) | (simp only [splice_norm]; rfl) | rfl) Try.sizeOf26 rfl rfl) (fun _ => ⟨HIn.sub, Knows.know⟩) fun _ => ?_
          refine JA_oneH (i := 7) (by kernel_rfl) rfl rfl (jo_store rfl rfl rfl (by first | (simp only [splice_norm]; done) | (simp only [splice_norm]; rfl) | rfl) Try.sizeOf26 rfl rfl) (fun _ => ⟨HIn.sub, Knows.know⟩) fun _ => ?_
          refine JA_oneH (i := 8) (by kernel_rfl) rfl rfl (jo_store rfl rfl rfl (by first | (simp only [splice_norm]; done) | (simp only [splice_norm]; rfl) | rfl) Try.sizeOf26 rfl rfl) (fun _ => ⟨HIn.sub, Knows.know⟩) fun _ => ?_
          refine JA_done (by kernel_rfl) ?_
          exact JE_cutF hK (b3, b4, b5) trivial (stsub_cons rfl (stsub_cons rfl (stsub_cons rfl stsub_nil))) (ht_bx rfl (ht_bx rfl (ht_bx rfl ht_nil)))
        exact JAl_nil
      exact JAl_nil
    dsimp only [List.cons_append, List.nil_append]
    refine JC_seq ?_
    refine JC_region ?_
    refine JL_pd rfl (det_fieldAddr rfl fo_26_2) ?_
    refine JL_step0 rfl rfl (jo_store rfl rfl rfl (by first | (simp only [splice_norm]; done) | (simp only [splice_norm]; rfl) | rfl) Try.sizeOf23 rfl rfl) fun _ => ?_
    refine JL_nil ?_
    refine JE_seq ?_
    refine JC_seq ?_
    refine JC_region ?_
    refine JL_pd rfl (det_fieldAddr rfl fo_26_1) ?_
    refine JL_step0 rfl rfl (jo_store rfl rfl rfl (by first | (simp only [splice_norm]; done) | (simp only [splice_norm]; rfl) | rfl) Try.sizeOf22 rfl rfl) fun _ => ?_
    refine JL_nil ?_
    refine JE_seq ?_
    refine JC_seq ?_
    refine JC_seq ?_
    refine JC_region ?_
    refine JL_pd rfl (det_assign rfl) ?_
    refine JL_nil ?_
    refine JE_seq ?_
    refine JC_block ?_
    -- stop: loop
    refine JC_nil 70 3 ?_
    refine JC_loopF (γ := Nat × Value) (fun q => q.1 ≤ m.steps.length) (fun q => [(6, I q.1)]) (fun q => [bx b4 [I m.states, q.2, .slice a.ra m.running.length a.rc, .slice a.ka m.locks.length a.kc], ow q.2 70 3 ((m.steps.take q.1).filter fun s => !decide (s.fr = 0)).length (((m.steps.take q.1).filter fun s => !decide (s.fr = 0)).flatMap encSp)]) (fun q => m.steps.length - q.1) (0, .slice none 0 0) (Nat.zero_le _) (stsub_consI rfl rfl stsub_nil) (ht_bx rfl (ht_ow rfl rfl ht_nil)) ?_
    rintro ⟨i, v⟩ hi K hK
    dsimp only [List.cons_append, List.nil_append] at hi ⊢
    have hsn : ∀ h : i < m.steps.length, (m.steps.take (i + 1)).filter (fun s => !decide (s.fr = 0)) = (m.steps.take i).filter (fun s => !decide (s.fr = 0)) ++ (if m.steps[i].fr = 0 then [] else [m.steps[i]]) := fun h => by
      rw [take_snoc h, List.filter_append]
      congr 1
      by_cases e : m.steps[i].fr = 0 <;> simp [e]
    have hln : ((m.steps.take i).filter fun s => !decide (s.fr = 0)).length ≤ 24 := by
      refine Nat.le_trans (List.length_filter_le _ _) ?_
      rw [List.length_take]; omega
    have hfin : i = m.steps.length → (m.steps.take i).filter (fun s => !decide (s.fr = 0)) = (stuckM m).steps := by
      rintro rfl; rw [List.take_length]
    generalize (m.steps.take i).filter (fun s => !decide (s.fr = 0)) = xs at hsn hln hfin
    refine JC_seq ?_
    refine JC_seq ?_
    refine JC_region ?_
    refine JL_pd rfl (det_move rfl) ?_
    refine JL_pd rfl (det_fieldAddr rfl fo_26_1) ?_
    refine JL_dt rfl (det_loadK rfl Try.isAgg22 rfl) ?_
    refine JL_pd rfl (det_len rfl Try.runUnderlying22) ?_
    refine JL_pd rfl (det_lss rfl rfl) ?_
    refine JL_nil ?_
    refine JE_seq ?_
    -- stop: cond
    refine JC_if rfl (fun h2 => ?_) (fun h2 => ?_)
    · have hi2 : i < m.steps.length := by omega
      have hsn := hsn hi2
      refine JC_skip ?_
      refine JE_seq ?_
      refine JC_seq ?_
      refine JC_block ?_
      refine JC_seq ?_
      refine JC_region ?_
      refine JL_pd rfl (det_fieldAddr rfl fo_26_1) ?_
      refine JL_dt rfl (det_loadK rfl Try.isAgg22 rfl) ?_
      refine JL_pd rfl (det_move rfl) ?_
      refine JL_dt rfl (det_indexAddr rfl rfl (by first | rfl | omega) (by first | assumption | omega | decide) Try.runUnderlying22 Try.sizeOf70) ?_
      refine JL_pd rfl (det_fieldAddrE rfl fo_70_0) ?_
      refine JL_dt rfl (det_loadEk rfl (by first | assumption | omega | decide) Try.isAgg3 rfl rfl) ?_
      refine JL_pd rfl (det_neq rfl rfl) ?_
      refine JL_nil ?_
      refine JE_seq ?_
      -- stop: cond
      refine JC_ifn rfl (fun h3 => ?_) (fun h3 => ?_)
      · rw [if_neg h3] at hsn
        refine JC_draw [8, 10] (by kernel_rfl) ?_
        refine JA_pd (i := 0) rfl (by kernel_rfl) rfl rfl (det_fieldAddr rfl fo_26_1) ?_
        refine JA_dt (i := 1) rfl (by kernel_rfl) (by kernel_rfl) rfl rfl (det_loadK rfl Try.isAgg22 rfl) ?_
        refine JA_pd (i := 2) rfl (by kernel_rfl) rfl rfl (det_fieldAddr rfl fo_26_1) ?_
        refine JA_dt (i := 3) rfl (by kernel_rfl) (by kernel_rfl) rfl rfl (det_loadK rfl Try.isAgg22 rfl) ?_
        refine JA_pd (i := 4) rfl (by kernel_rfl) rfl rfl (det_move rfl) ?_
        refine JA_dt (i := 5) rfl (by kernel_rfl) (by kernel_rfl) rfl rfl (det_indexAddr rfl rfl (by first | rfl | omega) (by first | assumption | omega | decide) Try.runUnderlying22 Try.sizeOf70) ?_
        refine JA_dt (i := 6) rfl (by kernel_rfl) (by kernel_rfl) rfl rfl (det_loadEA rfl (by first | assumption | omega | decide) Try.isAgg70 Try.sizeOf70 rfl rfl rfl) ?_
        refine JA_one (i := 7) (by kernel_rfl) rfl rfl (jo_buildSlice rfl (bsl_22_1_0 _ _ _)) (fun _ => ⟨hsub_drop 1 rfl, fun _ h => h⟩) fun b47 => ?_
        refine JA_tail (i := 8) (by kernel_rfl) rfl rfl rfl rfl (jo_append el_22 rfl rfl rfl rfl (by omega)) fun b48 => ?_
        refine JT_pd (i := 9) rfl (by kernel_rfl) rfl rfl (det_fieldAddr rfl fo_26_1) ?_
        refine JT_one (i := 10) (by kernel_rfl) rfl rfl (jo_store rfl rfl rfl (by first | (simp only [splice_norm]; done) | (simp only [splice_norm]; rfl) | rfl) Try.sizeOf22 rfl rfl) fun _ => ?_
        refine JT_done (by kernel_rfl) ?_
        refine JE_block ?_
        refine JE_seq ?_
        refine JC_region ?_
        refine JL_pd rfl (det_move rfl) ?_
        refine JL_pd rfl (det_add rfl rfl ⟨by omega, by omega⟩) ?_
        refine JL_pd rfl (det_assign rfl) ?_
        refine JL_nil ?_
        -- stop: end
        refine JE_roundF hK (i + 1, .slice (some ⟨b48.1, 0, none⟩) (xs.length + 1) b48.2) (by simp only; omega) (by simp only; omega) (stsub_consI rfl (by simp only; omega) stsub_nil) (ht_bx rfl (ht_ow (by simp only; rw [hsn]; simp) (by simp only; rw [hsn]; simp [encSp]) ht_nil))
      · rw [if_pos h3, List.append_nil] at hsn
        refine JC_skip ?_
        refine JE_block ?_
        refine JE_seq ?_
        refine JC_region ?_
        refine JL_pd rfl (det_move rfl) ?_
        refine JL_pd rfl (det_add rfl rfl ⟨by omega, by omega⟩) ?_
        refine JL_pd rfl (det_assign rfl) ?_
        refine JL_nil ?_
        -- stop: end
        refine JE_roundF hK (i + 1, v) (by simp only; omega) (by simp only; omega) (stsub_consI rfl (by simp only; omega) stsub_nil) (ht_bx rfl (ht_ow (by simp only; rw [hsn]) (by simp only; rw [hsn]) ht_nil))
    · obtain rfl : i = m.steps.length := by omega
      have hfin := hfin rfl
      subst hfin
      refine JC_slice (enc := encSp) (v := v) (stuckM m).steps noFp rfl rfl ?_
      rintro av cv rfl
      refine JC_exit ?_
      refine JE_seq_exit ?_
      refine JE_then_exit ?_
      refine JE_block_here ?_
      refine JE_seq ?_
      refine JC_seq ?_
      refine JC_region ?_
      refine JL_pd rfl (det_build rfl (bld_63_0_1 _ _)) ?_
      refine JL_step rfl rfl rfl (jo_buildSlice rfl (bsl_24_1_0 _ _)) fun b51 => ?_
      refine JL_pd rfl (det_fieldAddr rfl fo_26_3) ?_
      refine JL_step0 rfl rfl (jo_store rfl rfl rfl (by first | (simp only [splice_norm]; done) | (simp only [splice_norm]; rfl) | rfl) Try.sizeOf24 rfl rfl) fun _ => ?_
      refine JL_nil ?_
      refine JE_seq ?_
      refine JC_seq ?_
      refine JC_region ?_
      refine JL_pd rfl (det_fieldAddr rfl fo_26_3) ?_
      refine JL_step0 rfl rfl (jo_store rfl rfl rfl (by first | (simp only [splice_norm]; done) | (simp only [splice_norm]; rfl) | rfl) Try.sizeOf24 rfl rfl) fun _ => ?_
      refine JL_nil ?_
      refine JE_seq ?_
      refine JC_seq ?_
      refine JC_seq ?_
      refine JC_region ?_
      refine JL_pd rfl (det_assign rfl) ?_
      refine JL_nil ?_
      refine JE_seq ?_
      refine JC_block ?_
      -- stop: loop
      refine JC_lit (enc := encLk) b51 1 [⟨6, 0⟩] noFp rfl rfl (by decide) ?_
      refine JC_nil 63 2 ?_
      refine JC_loopF (γ := Nat × Value) (fun q => (q.1 : Int) ≤ m.states) (fun q => [(7, I q.1)]) (fun q => [bx b5 [I m.states, .slice a.sa m.steps.length a.sc, .slice a.ra m.running.length a.rc, q.2], ow q.2 63 2 (shutL q.1).length ((shutL q.1).flatMap encLk)]) (fun q => 8 - q.1) (0, .slice none 0 0) (show ((0 : Nat) : Int) ≤ m.states by omega) (stsub_consI rfl rfl stsub_nil) (ht_bx rfl (ht_ow rfl rfl ht_nil)) ?_
      rintro ⟨k, u⟩ hk K2 hK2
      dsimp only [List.cons_append, List.nil_append] at hk ⊢
      have hkl := shutL_len k
      refine JC_seq ?_
      refine JC_seq ?_
      refine JC_region ?_
      refine JL_pd rfl (det_move rfl) ?_
      refine JL_pd rfl (det_fieldAddr rfl fo_26_0) ?_
      refine JL_dt rfl (det_loadK rfl Try.isAgg3 rfl) ?_
      refine JL_pd rfl (det_lss rfl rfl) ?_
      refine JL_nil ?_
      refine JE_seq ?_
      -- stop: cond
      refine JC_if rfl (fun h4 => ?_) (fun h4 => ?_)
      · have hsk := shutL_succ k
        refine JC_skip ?_
        refine JE_seq ?_
        refine JC_seq ?_
        refine JC_block ?_
        refine JC_region ?_
        refine JL_pd rfl (det_fieldAddr rfl fo_26_3) ?_
        refine JL_dt rfl (det_loadK rfl Try.isAgg24 rfl) ?_
        refine JL_pd rfl (det_move rfl) ?_
        refine JL_pd rfl (det_build rfl (bld_63_0_1 _ _)) ?_
        refine JL_step rfl rfl rfl (jo_buildSlice rfl (bsl_24_1_0 _ _)) fun b64 => ?_
        refine JL_step rfl rfl rfl (jo_append el_24 rfl rfl rfl rfl (by omega)) fun b65 => ?_
        refine JL_pd rfl (det_fieldAddr rfl fo_26_3) ?_
        refine JL_step0 rfl rfl (jo_store rfl rfl rfl (by first | (simp only [splice_norm]; done) | (simp only [splice_norm]; rfl) | rfl) Try.sizeOf24 rfl rfl) fun _ => ?_
        refine JL_nil ?_
        refine JE_block ?_
        refine JE_seq ?_
        refine JC_region ?_
        refine JL_pd rfl (det_move rfl) ?_
        refine JL_pd rfl (det_add rfl rfl ⟨by omega, by omega⟩) ?_
        refine JL_pd rfl (det_assign rfl) ?_
        refine JL_nil ?_
        -- stop: end
        refine JE_roundF hK2 (k + 1, .slice (some ⟨b65.1, 0, none⟩) ((shutL k).length + 1) b65.2) (by simp only; omega) (by simp only; omega) (stsub_consI rfl (by simp only; omega) stsub_nil) (ht_bx rfl (ht_ow (by simp only; rw [hsk]; simp) (by simp only; rw [hsk]; simp [encLk]) ht_nil))
      · obtain rfl : k = m.states.toNat := by omega
        refine JC_slice (enc := encLk) (v := u) (shutM m).locks noFp rfl rfl ?_
        rintro bv dv rfl
        have hL2 : (stuckM m).steps.length ≤ 24 := V2.ns
        have hL3 : (shutM m).locks.length ≤ 40 := V3.nl
        refine JC_exit ?_
        refine JE_seq_exit ?_
        refine JE_then_exit ?_
        refine JE_block_here ?_
        refine JE_seq ?_
        refine JC_seq ?_
        refine JC_region ?_
        refine JL_dt rfl (det_loadKA rfl Try.isAgg26 Try.sizeOf26 rfl rfl) ?_
        -- stop: op  1 t69 := (call (Call (value f40) (t68) (26)))   <0>   226
        refine JL_step rfl rfl rfl (jo_callv rfl rfl Try.call40 rfl (hs1 ⟨a.sa, none, a.ka, a.sc, 0, a.kc⟩)) fun _ => ?_
        refine JL_pd rfl (det_move rfl) ?_
        refine JL_pd rfl (det_extract rfl rfl) ?_
        refine JL_pd rfl (det_extract rfl rfl) ?_
        refine JL_pd rfl (det_assign rfl) ?_
        refine JL_pd rfl (det_assign rfl) ?_
        refine JL_nil ?_
        refine JE_seq ?_
        refine JC_seq ?_
        refine JC_region ?_
        refine JL_dt rfl (det_loadKA rfl Try.isAgg26 Try.sizeOf26 rfl rfl) ?_
        -- stop: op  1 t74 := (call (Call (value f40) (t73) (26)))   <0>   227
        refine JL_step rfl rfl rfl (jo_callv rfl rfl Try.call40 rfl (hs2 ⟨av, a.ra, some ⟨b51, 0, none⟩, cv, a.rc, 1⟩)) fun _ => ?_
        refine JL_pd rfl (det_move rfl) ?_
        refine JL_pd rfl (det_extract rfl rfl) ?_
        refine JL_pd rfl (det_extract rfl rfl) ?_
        refine JL_pd rfl (det_assign rfl) ?_
        refine JL_pd rfl (det_assign rfl) ?_
        refine JL_nil ?_
        refine JE_seq ?_
        refine JC_seq ?_
        refine JC_region ?_
        refine JL_dt rfl (det_loadKA rfl Try.isAgg26 Try.sizeOf26 rfl rfl) ?_
        -- stop: op  1 t79 := (call (Call (value f20) (t78) (26)))   <0>   228
        refine JL_step rfl rfl rfl (jo_call rfl rfl Try.call20 rfl (Machine_j (stuckM m) ⟨av, a.ra, some ⟨b51, 0, none⟩, cv, a.rc, 1⟩ (by omega) (by show m.running.length ≤ 1000; omega) (by show 1 ≤ 1000; omega))) fun y2 => ?_
        -- stop: op  2 t80 := (call (Call (value f21) (t79) (34)))   <1 1>   228
        refine JL_step rfl rfl rfl (jo_call rfl rfl Try.call21 rfl (hst2 y2)) fun ⟨la, lc⟩ => ?_
        refine JL_pd rfl (det_move rfl) ?_
        refine JL_pd rfl (det_extract rfl rfl) ?_
        refine JL_pd rfl (det_extract rfl rfl) ?_
        refine JL_pd rfl (det_assign rfl) ?_
        refine JL_pd rfl (det_assign rfl) ?_
        refine JL_nil ?_
        refine JE_seq ?_
        refine JC_seq ?_
        refine JC_region ?_
        refine JL_dt rfl (det_loadKA rfl Try.isAgg26 Try.sizeOf26 rfl rfl) ?_
        -- stop: op  1 t85 := (call (Call (value f20) (t84) (26)))   <0>   229
        refine JL_step rfl rfl rfl (jo_call rfl rfl Try.call20 rfl (Machine_j (shutM m) ⟨a.sa, a.ra, bv, a.sc, a.rc, dv⟩ (by show m.steps.length ≤ 1000; omega) (by show m.running.length ≤ 1000; omega) (by omega))) fun y3 => ?_
        -- stop: op  2 t86 := (call (Call (value f21) (t85) (34)))   <1 1>   229
        refine JL_step rfl rfl rfl (jo_call rfl rfl Try.call21 rfl (hst3 y3)) fun ⟨lb, ld⟩ => ?_
        refine JL_pd rfl (det_move rfl) ?_
        refine JL_pd rfl (det_extract rfl rfl) ?_
        refine JL_pd rfl (det_extract rfl rfl) ?_
        refine JL_pd rfl (det_assign rfl) ?_
        refine JL_pd rfl (det_assign rfl) ?_
        refine JL_nil ?_
        refine JE_seq ?_
        refine JC_seq ?_
        refine JC_seq ?_
        refine JC_region ?_
        refine JL_pd rfl (det_move rfl) ?_
        refine JL_pd rfl (det_not rfl) ?_
        refine JL_pd rfl (det_move rfl) ?_
        -- stop: guard 2
        skip
        refine JL_is (d0 := 91) false rfl (by (first | rfl | decide)) (fun g1 => ?_)
        refine JL_guard rfl rfl g1 ?_
        refine JL_pd rfl (det_move rfl) ?_
        refine JL_guard rfl rfl g1 ?_
        refine JL_pd rfl (det_not rfl) ?_
        refine JL_pd rfl (det_pick_f rfl g1 rfl) ?_
        refine JL_pd rfl (det_move rfl) ?_
        refine JL_is (d0 := 95) false rfl (by (first | rfl | decide)) (fun g2 => ?_)
        refine JL_guard rfl rfl g2 ?_
        refine JL_pd rfl (det_move rfl) ?_
        refine JL_guard rfl rfl g2 ?_
        refine JL_pd rfl (det_not rfl) ?_
        refine JL_pd rfl (det_pick_f rfl g2 rfl) ?_
        refine JL_pd rfl (det_move rfl) ?_
        refine JL_is (d0 := 99) false rfl (by (first | rfl | decide)) (fun g3 => ?_)
        refine JL_guard rfl rfl g3 ?_
        refine JL_pd rfl (det_move rfl) ?_
        refine JL_guard rfl rfl g3 ?_
        refine JL_pd rfl (det_not rfl) ?_
        refine JL_pd rfl (det_pick_f rfl g3 rfl) ?_
        refine JL_pd rfl (det_move rfl) ?_
        refine JL_is (d0 := 103) false rfl (by (first | rfl | decide)) (fun g4 => ?_)
        refine JL_guard rfl rfl g4 ?_
        refine JL_pd rfl (det_move rfl) ?_
        refine JL_guard rfl rfl g4 ?_
        refine JL_pd rfl (det_neq rfl rfl) ?_
        refine JL_pd rfl (det_pick_f rfl g4 rfl) ?_
        refine JL_pd rfl (det_move rfl) ?_
        refine JL_is (d0 := 107) false rfl (by (first | rfl | decide)) (fun g5 => ?_)
        refine JL_guard rfl rfl g5 ?_
        refine JL_pd rfl (det_move rfl) ?_
        refine JL_guard rfl rfl g5 ?_
        refine JL_pd rfl (det_len rfl Try.runUnderlying36) ?_
        refine JL_guard rfl rfl g5 ?_
        refine JL_pd rfl (det_neq rfl rfl) ?_
        refine JL_pd rfl (det_pick_f rfl g5 rfl) ?_
        refine JL_pd rfl (det_move rfl) ?_
        refine JL_is (d0 := 112) false rfl (by (first | rfl | decide)) (fun g6 => ?_)
        refine JL_guard rfl rfl g6 ?_
        refine JL_pd rfl (det_move rfl) ?_
        refine JL_guard rfl rfl g6 ?_
        refine JL_pd rfl (det_neq rfl rfl) ?_
        refine JL_pd rfl (det_pick_f rfl g6 rfl) ?_
        refine JL_nil ?_
        refine JE_seq ?_
        -- stop: cond
        refine JC_cond rfl (fun h5 => ?_) (fun h5 => ?_)
        · cases h5
        · refine JC_skip ?_
          refine JE_seq ?_
          refine JC_seq ?_
          refine JC_seq ?_
          refine JC_region ?_
          refine JL_pd rfl (det_assign rfl) ?_
          refine JL_nil ?_
          refine JE_seq ?_
          refine JC_block ?_
          -- stop: loop
          refine JC_loopF (γ := Nat) (fun i => i ≤ L.length) (fun i => [(16, I i)]) (fun _ => []) (fun i => L.length - i) 0 (Nat.zero_le _) (stsub_consI rfl rfl stsub_nil) ht_nil ?_
          rintro j hj K3 hK3
          dsimp only [List.cons_append, List.nil_append]
          refine JC_seq ?_
          refine JC_seq ?_
          refine JC_region ?_
          refine JL_pd rfl (det_move rfl) ?_
          refine JL_pd rfl (det_move rfl) ?_
          refine JL_pd rfl (det_len rfl Try.runUnderlying36) ?_
          refine JL_pd rfl (det_lss rfl rfl) ?_
          refine JL_nil ?_
          refine JE_seq ?_
          -- stop: cond
          refine JC_if rfl (fun h6 => ?_) (fun h6 => ?_)
          · have hj2 : j < L.length := by omega
            have hs0 := hsp _ (List.getElem_mem hj2)
            refine JC_skip ?_
            refine JE_seq ?_
            refine JC_seq ?_
            refine JC_block ?_
            refine JC_seq ?_
            refine JC_region ?_
            refine JL_pd rfl (det_move rfl) ?_
            refine JL_pd rfl (det_move rfl) ?_
            refine JL_dt rfl (det_indexAddr rfl rfl (by first | rfl | omega) (by first | assumption | omega | decide) Try.runUnderlying36 Try.sizeOf77) ?_
            refine JL_pd rfl (det_fieldAddrE rfl fo_77_1) ?_
            refine JL_dt rfl (det_loadEk rfl (by first | assumption | omega | decide) Try.isAgg3 rfl rfl) ?_
            refine JL_pd rfl (det_neq rfl rfl) ?_
            refine JL_nil ?_
            refine JE_seq ?_
            -- stop: cond
            refine JC_ifn rfl (fun h7 => ?_) (fun h7 => ?_)
            · exact absurd hs0 h7
            · refine JC_skip ?_
              refine JE_block ?_
              refine JE_seq ?_
              refine JC_region ?_
              refine JL_pd rfl (det_move rfl) ?_
              refine JL_pd rfl (det_add rfl rfl ⟨by omega, by omega⟩) ?_
              refine JL_pd rfl (det_assign rfl) ?_
              refine JL_nil ?_
              -- stop: end
              refine JE_roundF hK3 (j + 1) (by omega) (by omega) (stsub_consI rfl (by omega) stsub_nil) ht_nil
          · refine JC_exit ?_
            refine JE_seq_exit ?_
            refine JE_then_exit ?_
            refine JE_block_here ?_
            refine JE_seq ?_
            refine JC_seq ?_
            refine JC_region ?_
            refine JL_step rfl rfl rfl (jo_callv rfl rfl Try.call18 rfl (wakes_j)) fun _ => ?_
            refine JL_pd rfl (det_assign rfl) ?_
            refine JL_nil ?_
            refine JE_seq ?_
            refine JC_ret ?_
            -- stop: out
            refine JE_out (.inl rfl) () (results1 Try.results9 (res_tmp rfl)) rfl (List.Perm.refl _) (fun _ _ => trivial)
theorem CycleNothing_j (m : Mc) (a : MA) : Cv Try.prog 9 [.agg #[I m.states, .slice a.sa m.steps.length a.sc, .slice a.ra m.running.length a.rc, .slice a.ka m.locks.length a.kc]] (KMc m a) (.bool true) := by
  cases hr : readyB m with
  | true => exact CycleNothing_r m a (ready_v hr)
  | false =>
    refine Cx_of Try.func9 rfl Try.ntmps9 rfl fun w0 M0 => ?_
    refine JC_seq ?_
    refine JC_region ?_
    refine JL_step rfl rfl rfl (jo_box rfl rfl) fun b1 => ?_
    refine JL_pd rfl (det_assign rfl) ?_
    refine JL_nil ?_
    refine JE_seq ?_
    refine JC_seq ?_
    refine JC_seq ?_
    refine JC_region ?_
    refine JL_dt rfl (det_loadKA rfl Try.isAgg26 Try.sizeOf26 rfl rfl) ?_
    refine JL_step rfl rfl rfl (jo_callv rfl rfl Try.call38 rfl (ready_j m a)) fun _ => ?_
    refine JL_pd rfl (det_not rfl) ?_
    refine JL_nil ?_
    refine JE_seq ?_
    -- stop: cond
    refine JC_cond rfl (fun h1 => ?_) (fun h1 => ?_)
    · refine JC_seq ?_
      refine JC_region ?_
      refine JL_step rfl rfl rfl (jo_callv rfl rfl Try.call18 rfl (wakes_j)) fun _ => ?_
      refine JL_pd rfl (det_assign rfl) ?_
      refine JL_nil ?_
      refine JE_seq ?_
      refine JC_ret ?_
      refine JE_seq_ret ?_
      -- stop: out
      refine JE_out (.inl rfl) () (results1 Try.results9 (res_tmp rfl)) rfl (List.Perm.refl _) (fun _ _ => trivial)
    · rw [hr] at h1; cases h1
end Go.Proofs.Ytgbfjcgjcnndpaa

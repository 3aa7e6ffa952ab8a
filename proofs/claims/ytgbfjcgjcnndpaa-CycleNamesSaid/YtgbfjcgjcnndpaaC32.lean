/- The statements about cycle: ways and dangers. -/
import Derived.Test.YtgbfjcgjcnndpaaC31
set_option linter.unusedSimpArgs false
set_option linter.unusedVariables false
namespace Go.Proofs.Ytgbfjcgjcnndpaa
open Go.RowKit Go.Shelf

/-- An answer, as a result of another kind. -/
theorem Cv.cr {P : Program} {f : FuncId} {args : List Value} {pre : World → Prop} {v : Value} {α : Type} {ret : α → Value} {post : α → World → Prop} (h : Cv P f args pre v) (x : α) (hv : ret x = v) (hp : ∀ w, post x w) : Cr P f args pre ret post := by
  intro M w a1 a2 a3 a4
  refine Calls.mono (h M w a1 a2 a3 a4) ?_
  rintro e w' ⟨_, M', b1, b2, b3, b4, b5, b6, b7, b8⟩
  exact ⟨x, M', by rw [hv]; exact b1, b2, b3, b4, b5, (fun c hc => by cases hc), List.Pairwise.nil, fun w2 _ => hp w2⟩
def wayRes (m : Mc) (tg : Sd) : Int × List Int := if fault m = 0 then (if inSpot m tg = true then (match wayO m m.locks (goalS tg) with | some l => (0, l) | none => (9, [])) else (2, [])) else (fault m, [])
def dangRes (m : Mc) : Int × List Int := if fault m = 0 then (match wayO m m.locks (dangerB m) with | some l => (0, l) | none => (7, [])) else (fault m, [])
theorem Way_j (m : Mc) (a : MA) (tg : Sd) : Cr Try.prog 44 [.agg #[I m.states, .slice a.sa m.steps.length a.sc, .slice a.ra m.running.length a.rc, .slice a.ka m.locks.length a.kc], .agg #[I tg.st, I tg.sp]] (KMc m a) (fun q : Option Addr × Nat => .tuple #[.slice q.1 (wayRes m tg).2.length q.2, I (wayRes m tg).1]) (fun q => KSl q.1 (wayRes m tg).2.length q.2 encI (wayRes m tg).2) := by
  unfold wayRes
  by_cases he : fault m = 0
  · rw [if_pos he]
    cases hr : inSpot m tg with
    | false => exact (Way_jr m a tg he hr).cr (none, 0) rfl fun w => KSl_none w
    | true =>
      rw [if_pos rfl]
      cases hw : wayO m m.locks (goalS tg) with
      | none => exact (Way_jn m a tg he hr hw).cr (none, 0) rfl fun w => KSl_none w
      | some l => exact Way_js m a tg he hr l hw
  · rw [if_neg he]
    exact (Way_je m a tg he).cr (none, 0) rfl fun w => KSl_none w
theorem Danger_j (m : Mc) (a : MA) : Cr Try.prog 26 [.agg #[I m.states, .slice a.sa m.steps.length a.sc, .slice a.ra m.running.length a.rc, .slice a.ka m.locks.length a.kc]] (KMc m a) (fun q : Option Addr × Nat => .tuple #[.slice q.1 (dangRes m).2.length q.2, I (dangRes m).1]) (fun q => KSl q.1 (dangRes m).2.length q.2 encI (dangRes m).2) := by
  unfold dangRes
  by_cases he : fault m = 0
  · rw [if_pos he]
    cases hw : wayO m m.locks (dangerB m) with
    | none => exact (Danger_jn m a he hw).cr (none, 0) rfl fun w => KSl_none w
    | some l => exact Danger_js m a he l hw
  · rw [if_neg he]
    exact (Danger_je m a he).cr (none, 0) rfl fun w => KSl_none w
theorem goalG_S {m : Mc} {tg : Sd} (hr : inSpot m tg = true) : encW 24 (goalG m false tg) = encW 24 (fun j => goalS tg (sdOf j)) := encW_congr fun j _ => by
  unfold goalG goalS
  unfold inSpot inI at hr
  simp only [Bool.and_eq_true, decide_eq_true_eq] at hr
  rw [if_neg (by decide)]
  by_cases e : sdOf j = tg
  · rw [e, decide_eq_true (show tg.st < m.states by omega)]; rfl
  · rw [decide_eq_false e, Bool.and_false]
theorem goalG_D {m : Mc} (V : Valid m) (tg : Sd) : encW 24 (goalG m true tg) = encW 24 (fun j => dangerB m (sdOf j)) := encW_congr fun j _ => by
  unfold goalG
  rw [if_pos rfl]
  by_cases h : (sdOf j).st < m.states
  · rw [decide_eq_true h]; rfl
  · rw [decide_eq_false h]
    unfold dangerB
    rw [decide_eq_false (p := (sdOf j).st ∈ m.running) fun hm => h (V.run _ hm).2, Bool.and_false]; rfl
theorem wayO_len {m : Mc} {ls : List Lk} {goal : Sd → Bool} {l : List Int} (h : wayO m ls goal = some l) : l.length ≤ 24 := by
  have key : ∀ k w, (wayL m ls goal k w).length ≤ k := by
    intro k
    induction k with
    | zero => intro w; exact Nat.le_refl 0
    | succ k ih =>
      intro w
      show (match (List.range 8).find? (fun g : Nat => witW m ls goal k (behW m ls w (g : Int))) with | some g => (g : Int) :: wayL m ls goal k (behW m ls w (g : Int)) | none => []).length ≤ k + 1
      split
      · rename_i g _
        simp only [List.length_cons]; have := ih (behW m ls w (g : Int)); omega
      · simp
  unfold wayO at h
  cases hl : longO m ls goal with
  | none => rw [hl] at h; cases h
  | some k =>
    rw [hl] at h
    have hk := List.mem_range.1 (List.mem_of_find?_eq_some hl)
    have e : wayL m ls goal k begW = l := by simpa using h
    rw [← e]
    have := key k begW; omega
set_option maxRecDepth 100000 in
theorem CycleWays_e (m : Mc) (a : MA) (tg : Sd) (hth : m.steps.length ≤ 30 ∧ m.locks.length ≤ 45 ∧ m.running.length ≤ 12) (ht : thinB m = true) (he : fault m ≠ 0) : Cv Try.prog 11 [.agg #[I m.states, .slice a.sa m.steps.length a.sc, .slice a.ra m.running.length a.rc, .slice a.ka m.locks.length a.kc], .agg #[I tg.st, I tg.sp]] (KMc m a) (.bool true) := by
  have hwa := fun b : MA => Way_je m b tg he
  refine Cx_of Try.func11 rfl Try.ntmps11 rfl fun w0 M0 => ?_
  refine JC_seq ?_
  refine JC_region ?_
  refine JL_step rfl rfl rfl (jo_box rfl rfl) fun b2 => ?_
  refine JL_step rfl rfl rfl (jo_box rfl rfl) fun b3 => ?_
  refine JL_pd rfl (det_assign rfl) ?_
  refine JL_nil ?_
  refine JE_seq ?_
  refine JC_seq ?_
  refine JC_seq ?_
  refine JC_region ?_
  refine JL_dt rfl (det_loadKA rfl Try.isAgg26 Try.sizeOf26 rfl rfl) ?_
  refine JL_step rfl rfl rfl (jo_callv rfl rfl Try.call17 rfl (Thin_j m a)) fun _ => ?_
  refine JL_pd rfl (det_not rfl) ?_
  refine JL_nil ?_
  refine JE_seq ?_
  -- stop: cond
  refine JC_cond rfl (fun h1 => ?_) (fun h1 => ?_)
  · rw [ht] at h1; cases h1
  · refine JC_skip ?_
    refine JE_seq ?_
    refine JC_seq ?_
    refine JC_draw [] (by kernel_rfl) ?_
    refine JA_dt (i := 0) rfl (by kernel_rfl) (by kernel_rfl) rfl rfl (det_loadKA rfl Try.isAgg26 Try.sizeOf26 rfl rfl) ?_
    refine JA_pd (i := 2) rfl (by kernel_rfl) rfl rfl (det_fieldAddr rfl fo_53_0) ?_
    refine JA_dt (i := 3) rfl (by kernel_rfl) (by kernel_rfl) rfl rfl (det_loadK rfl Try.isAgg3 rfl) ?_
    refine JA_pd (i := 4) rfl (by kernel_rfl) rfl rfl (det_fieldAddr rfl fo_53_1) ?_
    refine JA_dt (i := 5) rfl (by kernel_rfl) (by kernel_rfl) rfl rfl (det_loadK rfl Try.isAgg3 rfl) ?_
    refine JA_pd (i := 6) rfl (by kernel_rfl) rfl rfl (det_build rfl (bld_77_0_1 _ _)) ?_
    refine JA_one (i := 1) (by kernel_rfl) rfl rfl (jo_call rfl rfl Try.call20 rfl (Machine_j m a (by omega) (by omega) (by omega))) (fun _ => ⟨hsub_drop 0 rfl, fun _ h => h.2⟩) fun x16 => ?_
    refine JA_one (i := 7) (by kernel_rfl) rfl rfl (jo_callv rfl rfl Try.call44 rfl (hwa x16)) (fun _ => ⟨hsub_refl, fun _ h => h⟩) fun _ => ?_
    refine JA_pd (i := 8) rfl (by kernel_rfl) rfl rfl (det_move rfl) ?_
    refine JA_pd (i := 9) rfl (by kernel_rfl) rfl rfl (det_extract rfl rfl) ?_
    refine JA_pd (i := 10) rfl (by kernel_rfl) rfl rfl (det_extract rfl rfl) ?_
    refine JA_pd (i := 11) rfl (by kernel_rfl) rfl rfl (det_assign rfl) ?_
    refine JA_pd (i := 12) rfl (by kernel_rfl) rfl rfl (det_assign rfl) ?_
    refine JA_done (by kernel_rfl) ?_
    refine JE_seq ?_
    refine JC_seq ?_
    refine JC_region ?_
    refine JL_dt rfl (det_loadKA rfl Try.isAgg26 Try.sizeOf26 rfl rfl) ?_
    refine JL_step rfl rfl rfl (jo_callv rfl rfl Try.call22 rfl (fault_jl m a)) fun _ => ?_
    refine JL_pd rfl (det_assign rfl) ?_
    refine JL_nil ?_
    refine JE_seq ?_
    refine JC_seq ?_
    refine JC_seq ?_
    refine JC_region ?_
    refine JL_pd rfl (det_move rfl) ?_
    refine JL_pd rfl (det_eql rfl rfl) ?_
    refine JL_pd rfl (det_move rfl) ?_
    -- stop: guard 2
    refine JL_is (d0 := 29) false rfl (by exact decide_eq_false he) (fun g2 => ?_)
    refine JL_skip rfl rfl g2 rfl ?_
    refine JL_skip rfl rfl g2 rfl ?_
    refine JL_skip rfl rfl g2 rfl ?_
    refine JL_skip rfl rfl g2 rfl ?_
    refine JL_skip rfl rfl g2 rfl ?_
    refine JL_skip rfl rfl g2 rfl ?_
    refine JL_skip rfl rfl g2 rfl ?_
    refine JL_skip rfl rfl g2 rfl ?_
    refine JL_skipU rfl rfl rfl ?_
    refine JL_skipU rfl rfl rfl ?_
    refine JL_skipU rfl rfl rfl ?_
    refine JL_skipU rfl rfl rfl ?_
    refine JL_skip rfl rfl g2 rfl ?_
    refine JL_pd rfl (det_pick_f rfl g2 rfl) ?_
    refine JL_nil ?_
    refine JE_seq ?_
    refine JC_condF rfl rfl ?_
    refine JC_skip ?_
    refine JE_seq ?_
    refine JC_seq ?_
    refine JC_region ?_
    refine JL_pd rfl (det_assign rfl) ?_
    refine JL_nil ?_
    refine JE_seq ?_
    refine JC_seq ?_
    refine JC_seq ?_
    refine JC_region ?_
    refine JL_pd rfl (det_move rfl) ?_
    refine JL_pd rfl (det_eql rfl rfl) ?_
    refine JL_nil ?_
    refine JE_seq ?_
    -- stop: cond
    refine JC_if rfl (fun h3 => ?_) (fun h3 => ?_)
    · exact absurd h3 he
    · refine JC_skip ?_
      refine JE_seq ?_
      refine JC_seq ?_
      refine JC_seq ?_
      refine JC_region ?_
      refine JL_pd rfl (det_move rfl) ?_
      refine JL_pd rfl (det_neq rfl rfl) ?_
      refine JL_nil ?_
      refine JE_seq ?_
      -- stop: cond
      refine JC_ifn rfl (fun h4 => ?_) (fun h4 => ?_)
      · refine JC_seq ?_
        refine JC_region ?_
        refine JL_pd rfl (det_move rfl) ?_
        refine JL_pd rfl (det_move rfl) ?_
        refine JL_pd rfl (det_eql rfl rfl) ?_
        refine JL_pd rfl (det_move rfl) ?_
        -- stop: guard 3
        refine JL_is (d0 := 61) true rfl (by simp) (fun h1 => ?_)
        refine JL_guard rfl rfl h1 ?_
        refine JL_pd rfl (det_move rfl) ?_
        refine JL_guard rfl rfl h1 ?_
        refine JL_pd rfl (det_len rfl Try.runUnderlying23) ?_
        refine JL_guard rfl rfl h1 ?_
        refine JL_pd rfl (det_eql rfl rfl) ?_
        refine JL_pd rfl (det_pick_t rfl h1 rfl) ?_
        refine JL_pd rfl (det_move rfl) ?_
        refine JL_is (d0 := 66) true rfl (by simp) (fun h2 => ?_)
        refine JL_guard rfl rfl h2 ?_
        refine JL_step rfl rfl rfl (jo_callv rfl rfl Try.call18 rfl (wakes_j)) fun _ => ?_
        refine JL_pd rfl (det_pick_t rfl h2 rfl) ?_
        refine JL_pd rfl (det_assign rfl) ?_
        refine JL_nil ?_
        refine JE_seq ?_
        refine JC_ret ?_
        refine JE_seq_ret ?_
        refine JE_out (.inl rfl) () (results1 Try.results11 (res_tmp rfl)) ?_ (List.Perm.refl _) (fun _ _ => trivial)
        rfl
      · exact absurd h4 he
set_option maxRecDepth 100000 in
theorem CycleWays_r (m : Mc) (a : MA) (tg : Sd) (hth : m.steps.length ≤ 30 ∧ m.locks.length ≤ 45 ∧ m.running.length ≤ 12) (ht : thinB m = true) (he : fault m = 0) (hr : inSpot m tg = false) : Cv Try.prog 11 [.agg #[I m.states, .slice a.sa m.steps.length a.sc, .slice a.ra m.running.length a.rc, .slice a.ka m.locks.length a.kc], .agg #[I tg.st, I tg.sp]] (KMc m a) (.bool true) := by
  have V := valid_of he
  have s1 := V.s1
  have s2 := V.s2
  have hwa := fun b : MA => Way_jr m b tg he hr
  refine Cx_of Try.func11 rfl Try.ntmps11 rfl fun w0 M0 => ?_
  refine JC_seq ?_
  refine JC_region ?_
  refine JL_step rfl rfl rfl (jo_box rfl rfl) fun b2 => ?_
  refine JL_step rfl rfl rfl (jo_box rfl rfl) fun b3 => ?_
  refine JL_pd rfl (det_assign rfl) ?_
  refine JL_nil ?_
  refine JE_seq ?_
  refine JC_seq ?_
  refine JC_seq ?_
  refine JC_region ?_
  refine JL_dt rfl (det_loadKA rfl Try.isAgg26 Try.sizeOf26 rfl rfl) ?_
  refine JL_step rfl rfl rfl (jo_callv rfl rfl Try.call17 rfl (Thin_j m a)) fun _ => ?_
  refine JL_pd rfl (det_not rfl) ?_
  refine JL_nil ?_
  refine JE_seq ?_
  -- stop: cond
  refine JC_cond rfl (fun h1 => ?_) (fun h1 => ?_)
  · rw [ht] at h1; cases h1
  · refine JC_skip ?_
    refine JE_seq ?_
    refine JC_seq ?_
    refine JC_draw [] (by kernel_rfl) ?_
    refine JA_dt (i := 0) rfl (by kernel_rfl) (by kernel_rfl) rfl rfl (det_loadKA rfl Try.isAgg26 Try.sizeOf26 rfl rfl) ?_
    refine JA_pd (i := 2) rfl (by kernel_rfl) rfl rfl (det_fieldAddr rfl fo_53_0) ?_
    refine JA_dt (i := 3) rfl (by kernel_rfl) (by kernel_rfl) rfl rfl (det_loadK rfl Try.isAgg3 rfl) ?_
    refine JA_pd (i := 4) rfl (by kernel_rfl) rfl rfl (det_fieldAddr rfl fo_53_1) ?_
    refine JA_dt (i := 5) rfl (by kernel_rfl) (by kernel_rfl) rfl rfl (det_loadK rfl Try.isAgg3 rfl) ?_
    refine JA_pd (i := 6) rfl (by kernel_rfl) rfl rfl (det_build rfl (bld_77_0_1 _ _)) ?_
    refine JA_one (i := 1) (by kernel_rfl) rfl rfl (jo_call rfl rfl Try.call20 rfl (Machine_j m a (by omega) (by omega) (by omega))) (fun _ => ⟨hsub_drop 0 rfl, fun _ h => h.2⟩) fun x16 => ?_
    refine JA_one (i := 7) (by kernel_rfl) rfl rfl (jo_callv rfl rfl Try.call44 rfl (hwa x16)) (fun _ => ⟨hsub_refl, fun _ h => h⟩) fun _ => ?_
    refine JA_pd (i := 8) rfl (by kernel_rfl) rfl rfl (det_move rfl) ?_
    refine JA_pd (i := 9) rfl (by kernel_rfl) rfl rfl (det_extract rfl rfl) ?_
    refine JA_pd (i := 10) rfl (by kernel_rfl) rfl rfl (det_extract rfl rfl) ?_
    refine JA_pd (i := 11) rfl (by kernel_rfl) rfl rfl (det_assign rfl) ?_
    refine JA_pd (i := 12) rfl (by kernel_rfl) rfl rfl (det_assign rfl) ?_
    refine JA_done (by kernel_rfl) ?_
    refine JE_seq ?_
    refine JC_seq ?_
    refine JC_region ?_
    refine JL_dt rfl (det_loadKA rfl Try.isAgg26 Try.sizeOf26 rfl rfl) ?_
    refine JL_step rfl rfl rfl (jo_callv rfl rfl Try.call22 rfl (fault_jl m a)) fun _ => ?_
    refine JL_pd rfl (det_assign rfl) ?_
    refine JL_nil ?_
    refine JE_seq ?_
    refine JC_seq ?_
    refine JC_seq ?_
    refine JC_region ?_
    refine JL_pd rfl (det_move rfl) ?_
    refine JL_pd rfl (det_eql rfl rfl) ?_
    refine JL_pd rfl (det_move rfl) ?_
    -- stop: guard 2
    refine JL_join1 14 43 (.bool (decide (fault m = 0) && !inSpot m tg)) (fun hj => ?_) ?_
    · refine JL_split (d0 := 29) rfl (fun q3 => ?_) (fun q3 => ?_)
      · refine JL_guard rfl rfl q3 ?_
        refine JL_pd rfl (det_fieldAddr rfl fo_53_0) ?_
        refine JL_guard rfl rfl q3 ?_
        refine JL_dt rfl (det_loadK rfl Try.isAgg3 rfl) ?_
        refine JL_guard rfl rfl q3 ?_
        refine JL_pd rfl (det_fieldAddr rfl fo_26_0) ?_
        refine JL_guard rfl rfl q3 ?_
        refine JL_dt rfl (det_loadK rfl Try.isAgg3 rfl) ?_
        refine JL_guard rfl rfl q3 ?_
        refine JL_pd rfl (det_sub rfl rfl ⟨by omega, by omega⟩) ?_
        refine JL_guard rfl rfl q3 ?_
        refine JL_step rfl rfl rfl (jo_callv rfl rfl Try.call36 rfl (In_j _ _ _)) fun _ => ?_
        refine JL_guard rfl rfl q3 ?_
        refine JL_pd rfl (det_not rfl) ?_
        refine JL_guard rfl rfl q3 ?_
        refine JL_pd rfl (det_move rfl) ?_
        refine JL_split (d0 := 37) rfl (fun q4 => ?_) (fun q4 => ?_)
        · refine JL_skip rfl rfl q4 rfl ?_
          refine JL_skip rfl rfl q4 rfl ?_
          refine JL_skip rfl rfl q4 rfl ?_
          refine JL_skip rfl rfl q4 rfl ?_
          refine JL_guard rfl rfl q3 ?_
          refine JL_pd rfl (det_pick_t rfl q4 rfl) ?_
          refine JL_pd rfl (det_pick_t rfl q3 rfl) ?_
          exact hj (by kernel_rfl) (stsub_consB rfl (by clear hj; first | rfl | (simp only [inSpot, q3, q4, Bool.and_true, Bool.true_and, Bool.false_and, Bool.and_false, Bool.or_true, Bool.true_or, Bool.or_false, Bool.false_or, Bool.not_true, Bool.not_false]; done) | (simp [inSpot, q3, q4]; done) | (simp [inSpot] at q3; done) | (simp [inSpot] at q4; done) | (simp [inSpot, q3, q4] <;> omega) | (exfalso; simp [inSpot] at q3 q4; omega) | (simp [q4, inSpot] at q3; done) | (simp [q3, inSpot] at q4; done)) stsub_nil)
        · refine JL_guard rfl rfl q4 ?_
          refine JL_pd rfl (det_fieldAddr rfl fo_53_1) ?_
          refine JL_guard rfl rfl q4 ?_
          refine JL_dt rfl (det_loadK rfl Try.isAgg3 rfl) ?_
          refine JL_guard rfl rfl q4 ?_
          refine JL_step rfl rfl rfl (jo_callv rfl rfl Try.call36 rfl (In_j _ _ _)) fun _ => ?_
          refine JL_guard rfl rfl q4 ?_
          refine JL_pd rfl (det_not rfl) ?_
          refine JL_guard rfl rfl q3 ?_
          refine JL_pd rfl (det_pick_f rfl q4 rfl) ?_
          refine JL_pd rfl (det_pick_t rfl q3 rfl) ?_
          exact hj (by kernel_rfl) (stsub_consB rfl (by clear hj; first | rfl | (simp only [inSpot, q3, q4, Bool.and_true, Bool.true_and, Bool.false_and, Bool.and_false, Bool.or_true, Bool.true_or, Bool.or_false, Bool.false_or, Bool.not_true, Bool.not_false]; done) | (simp [inSpot, q3, q4]; done) | (simp [inSpot] at q3; done) | (simp [inSpot] at q4; done) | (simp [inSpot, q3, q4] <;> omega) | (exfalso; simp [inSpot] at q3 q4; omega) | (simp [q4, inSpot] at q3; done) | (simp [q3, inSpot] at q4; done)) stsub_nil)
      · refine JL_skip rfl rfl q3 rfl ?_
        refine JL_skip rfl rfl q3 rfl ?_
        refine JL_skip rfl rfl q3 rfl ?_
        refine JL_skip rfl rfl q3 rfl ?_
        refine JL_skip rfl rfl q3 rfl ?_
        refine JL_skip rfl rfl q3 rfl ?_
        refine JL_skip rfl rfl q3 rfl ?_
        refine JL_skip rfl rfl q3 rfl ?_
        refine JL_skipU rfl rfl rfl ?_
        refine JL_skipU rfl rfl rfl ?_
        refine JL_skipU rfl rfl rfl ?_
        refine JL_skipU rfl rfl rfl ?_
        refine JL_skip rfl rfl q3 rfl ?_
        refine JL_pd rfl (det_pick_f rfl q3 rfl) ?_
        exact hj (by kernel_rfl) (stsub_consB rfl (by clear hj; first | rfl | (simp only [inSpot, q3, Bool.and_true, Bool.true_and, Bool.false_and, Bool.and_false, Bool.or_true, Bool.true_or, Bool.or_false, Bool.false_or, Bool.not_true, Bool.not_false]; done) | (simp [inSpot, q3]; done) | (simp [inSpot] at q3; done) | (simp [inSpot, q3] <;> omega) | (exfalso; simp [inSpot] at q3; omega)) stsub_nil)
    refine JL_nil ?_
    refine JE_seq ?_
    -- stop: cond
    refine JC_cond rfl (fun h2 => ?_) (fun h2 => ?_)
    · refine JC_region ?_
      refine JL_pd rfl (det_assign rfl) ?_
      refine JL_nil ?_
      refine JE_seq ?_
      refine JC_seq ?_
      refine JC_region ?_
      refine JL_pd rfl (det_assign rfl) ?_
      refine JL_nil ?_
      refine JE_seq ?_
      refine JC_seq ?_
      refine JC_seq ?_
      refine JC_region ?_
      refine JL_pd rfl (det_move rfl) ?_
      refine JL_pd rfl (det_eql rfl rfl) ?_
      refine JL_nil ?_
      refine JE_seq ?_
      -- stop: cond
      refine JC_if rfl (fun h3 => ?_) (fun h3 => ?_)
      · cases h3
      · refine JC_skip ?_
        refine JE_seq ?_
        refine JC_seq ?_
        refine JC_seq ?_
        refine JC_region ?_
        refine JL_pd rfl (det_move rfl) ?_
        refine JL_pd rfl (det_neq rfl rfl) ?_
        refine JL_nil ?_
        refine JE_seq ?_
        -- stop: cond
        refine JC_ifn rfl (fun h4 => ?_) (fun h4 => ?_)
        · refine JC_seq ?_
          refine JC_region ?_
          refine JL_pd rfl (det_move rfl) ?_
          refine JL_pd rfl (det_move rfl) ?_
          refine JL_pd rfl (det_eql rfl rfl) ?_
          refine JL_pd rfl (det_move rfl) ?_
          -- stop: guard 3
          refine JL_is (d0 := 61) true rfl (by simp) (fun h5 => ?_)
          refine JL_guard rfl rfl h5 ?_
          refine JL_pd rfl (det_move rfl) ?_
          refine JL_guard rfl rfl h5 ?_
          refine JL_pd rfl (det_len rfl Try.runUnderlying23) ?_
          refine JL_guard rfl rfl h5 ?_
          refine JL_pd rfl (det_eql rfl rfl) ?_
          refine JL_pd rfl (det_pick_t rfl h5 rfl) ?_
          refine JL_pd rfl (det_move rfl) ?_
          refine JL_is (d0 := 66) true rfl (by simp) (fun h6 => ?_)
          refine JL_guard rfl rfl h6 ?_
          refine JL_step rfl rfl rfl (jo_callv rfl rfl Try.call18 rfl (wakes_j)) fun _ => ?_
          refine JL_pd rfl (det_pick_t rfl h6 rfl) ?_
          refine JL_pd rfl (det_assign rfl) ?_
          refine JL_nil ?_
          refine JE_seq ?_
          refine JC_ret ?_
          refine JE_seq_ret ?_
          refine JE_out (.inl rfl) () (results1 Try.results11 (res_tmp rfl)) ?_ (List.Perm.refl _) (fun _ _ => trivial)
          rfl
        · cases h4
    · rw [hr, decide_eq_true he] at h2; cases h2
set_option maxRecDepth 100000 in
theorem CycleWays_n (m : Mc) (a : MA) (tg : Sd) (hth : m.steps.length ≤ 30 ∧ m.locks.length ≤ 45 ∧ m.running.length ≤ 12) (ht : thinB m = true) (he : fault m = 0) (hr : inSpot m tg = true) (hw : wayO m m.locks (goalS tg) = none) : Cv Try.prog 11 [.agg #[I m.states, .slice a.sa m.steps.length a.sc, .slice a.ra m.running.length a.rc, .slice a.ka m.locks.length a.kc], .agg #[I tg.st, I tg.sp]] (KMc m a) (.bool true) := by
  have V := valid_of he
  have s1 := V.s1
  have s2 := V.s2
  have hgl := Goal_j m a false tg V
  rw [show evB (goalG m false tg) = evB (fun j => goalS tg (sdOf j)) from by unfold evB; rw [goalG_S hr]] at hgl
  have hwy := RWay_j m a (goalS tg) V
  rw [hw] at hwy
  have hwa := fun b : MA => Way_jn m b tg he hr hw
  refine Cx_of Try.func11 rfl Try.ntmps11 rfl fun w0 M0 => ?_
  refine JC_seq ?_
  refine JC_region ?_
  refine JL_step rfl rfl rfl (jo_box rfl rfl) fun b2 => ?_
  refine JL_step rfl rfl rfl (jo_box rfl rfl) fun b3 => ?_
  refine JL_pd rfl (det_assign rfl) ?_
  refine JL_nil ?_
  refine JE_seq ?_
  refine JC_seq ?_
  refine JC_seq ?_
  refine JC_region ?_
  refine JL_dt rfl (det_loadKA rfl Try.isAgg26 Try.sizeOf26 rfl rfl) ?_
  refine JL_step rfl rfl rfl (jo_callv rfl rfl Try.call17 rfl (Thin_j m a)) fun _ => ?_
  refine JL_pd rfl (det_not rfl) ?_
  refine JL_nil ?_
  refine JE_seq ?_
  -- stop: cond
  refine JC_cond rfl (fun h1 => ?_) (fun h1 => ?_)
  · rw [ht] at h1; cases h1
  · refine JC_skip ?_
    refine JE_seq ?_
    refine JC_seq ?_
    refine JC_draw [] (by kernel_rfl) ?_
    refine JA_dt (i := 0) rfl (by kernel_rfl) (by kernel_rfl) rfl rfl (det_loadKA rfl Try.isAgg26 Try.sizeOf26 rfl rfl) ?_
    refine JA_pd (i := 2) rfl (by kernel_rfl) rfl rfl (det_fieldAddr rfl fo_53_0) ?_
    refine JA_dt (i := 3) rfl (by kernel_rfl) (by kernel_rfl) rfl rfl (det_loadK rfl Try.isAgg3 rfl) ?_
    refine JA_pd (i := 4) rfl (by kernel_rfl) rfl rfl (det_fieldAddr rfl fo_53_1) ?_
    refine JA_dt (i := 5) rfl (by kernel_rfl) (by kernel_rfl) rfl rfl (det_loadK rfl Try.isAgg3 rfl) ?_
    refine JA_pd (i := 6) rfl (by kernel_rfl) rfl rfl (det_build rfl (bld_77_0_1 _ _)) ?_
    refine JA_one (i := 1) (by kernel_rfl) rfl rfl (jo_call rfl rfl Try.call20 rfl (Machine_j m a (by omega) (by omega) (by omega))) (fun _ => ⟨hsub_drop 0 rfl, fun _ h => h.2⟩) fun x16 => ?_
    refine JA_one (i := 7) (by kernel_rfl) rfl rfl (jo_callv rfl rfl Try.call44 rfl (hwa x16)) (fun _ => ⟨hsub_refl, fun _ h => h⟩) fun _ => ?_
    refine JA_pd (i := 8) rfl (by kernel_rfl) rfl rfl (det_move rfl) ?_
    refine JA_pd (i := 9) rfl (by kernel_rfl) rfl rfl (det_extract rfl rfl) ?_
    refine JA_pd (i := 10) rfl (by kernel_rfl) rfl rfl (det_extract rfl rfl) ?_
    refine JA_pd (i := 11) rfl (by kernel_rfl) rfl rfl (det_assign rfl) ?_
    refine JA_pd (i := 12) rfl (by kernel_rfl) rfl rfl (det_assign rfl) ?_
    refine JA_done (by kernel_rfl) ?_
    refine JE_seq ?_
    refine JC_seq ?_
    refine JC_region ?_
    refine JL_dt rfl (det_loadKA rfl Try.isAgg26 Try.sizeOf26 rfl rfl) ?_
    refine JL_step rfl rfl rfl (jo_callv rfl rfl Try.call22 rfl (fault_jl m a)) fun _ => ?_
    refine JL_pd rfl (det_assign rfl) ?_
    refine JL_nil ?_
    refine JE_seq ?_
    refine JC_seq ?_
    refine JC_seq ?_
    refine JC_region ?_
    refine JL_pd rfl (det_move rfl) ?_
    refine JL_pd rfl (det_eql rfl rfl) ?_
    refine JL_pd rfl (det_move rfl) ?_
    -- stop: guard 2
    refine JL_join1 14 43 (.bool (decide (fault m = 0) && !inSpot m tg)) (fun hj => ?_) ?_
    · refine JL_split (d0 := 29) rfl (fun q7 => ?_) (fun q7 => ?_)
      · refine JL_guard rfl rfl q7 ?_
        refine JL_pd rfl (det_fieldAddr rfl fo_53_0) ?_
        refine JL_guard rfl rfl q7 ?_
        refine JL_dt rfl (det_loadK rfl Try.isAgg3 rfl) ?_
        refine JL_guard rfl rfl q7 ?_
        refine JL_pd rfl (det_fieldAddr rfl fo_26_0) ?_
        refine JL_guard rfl rfl q7 ?_
        refine JL_dt rfl (det_loadK rfl Try.isAgg3 rfl) ?_
        refine JL_guard rfl rfl q7 ?_
        refine JL_pd rfl (det_sub rfl rfl ⟨by omega, by omega⟩) ?_
        refine JL_guard rfl rfl q7 ?_
        refine JL_step rfl rfl rfl (jo_callv rfl rfl Try.call36 rfl (In_j _ _ _)) fun _ => ?_
        refine JL_guard rfl rfl q7 ?_
        refine JL_pd rfl (det_not rfl) ?_
        refine JL_guard rfl rfl q7 ?_
        refine JL_pd rfl (det_move rfl) ?_
        refine JL_split (d0 := 37) rfl (fun q8 => ?_) (fun q8 => ?_)
        · refine JL_skip rfl rfl q8 rfl ?_
          refine JL_skip rfl rfl q8 rfl ?_
          refine JL_skip rfl rfl q8 rfl ?_
          refine JL_skip rfl rfl q8 rfl ?_
          refine JL_guard rfl rfl q7 ?_
          refine JL_pd rfl (det_pick_t rfl q8 rfl) ?_
          refine JL_pd rfl (det_pick_t rfl q7 rfl) ?_
          exact hj (by kernel_rfl) (stsub_consB rfl (by clear hj; first | rfl | (simp only [inSpot, q7, q8, Bool.and_true, Bool.true_and, Bool.false_and, Bool.and_false, Bool.or_true, Bool.true_or, Bool.or_false, Bool.false_or, Bool.not_true, Bool.not_false]; done) | (simp [inSpot, q7, q8]; done) | (simp [inSpot] at q7; done) | (simp [inSpot] at q8; done) | (simp [inSpot, q7, q8] <;> omega) | (exfalso; simp [inSpot] at q7 q8; omega) | (simp [q8, inSpot] at q7; done) | (simp [q7, inSpot] at q8; done)) stsub_nil)
        · refine JL_guard rfl rfl q8 ?_
          refine JL_pd rfl (det_fieldAddr rfl fo_53_1) ?_
          refine JL_guard rfl rfl q8 ?_
          refine JL_dt rfl (det_loadK rfl Try.isAgg3 rfl) ?_
          refine JL_guard rfl rfl q8 ?_
          refine JL_step rfl rfl rfl (jo_callv rfl rfl Try.call36 rfl (In_j _ _ _)) fun _ => ?_
          refine JL_guard rfl rfl q8 ?_
          refine JL_pd rfl (det_not rfl) ?_
          refine JL_guard rfl rfl q7 ?_
          refine JL_pd rfl (det_pick_f rfl q8 rfl) ?_
          refine JL_pd rfl (det_pick_t rfl q7 rfl) ?_
          exact hj (by kernel_rfl) (stsub_consB rfl (by clear hj; first | rfl | (simp only [inSpot, q7, q8, Bool.and_true, Bool.true_and, Bool.false_and, Bool.and_false, Bool.or_true, Bool.true_or, Bool.or_false, Bool.false_or, Bool.not_true, Bool.not_false]; done) | (simp [inSpot, q7, q8]; done) | (simp [inSpot] at q7; done) | (simp [inSpot] at q8; done) | (simp [inSpot, q7, q8] <;> omega) | (exfalso; simp [inSpot] at q7 q8; omega) | (simp [q8, inSpot] at q7; done) | (simp [q7, inSpot] at q8; done)) stsub_nil)
      · refine JL_skip rfl rfl q7 rfl ?_
        refine JL_skip rfl rfl q7 rfl ?_
        refine JL_skip rfl rfl q7 rfl ?_
        refine JL_skip rfl rfl q7 rfl ?_
        refine JL_skip rfl rfl q7 rfl ?_
        refine JL_skip rfl rfl q7 rfl ?_
        refine JL_skip rfl rfl q7 rfl ?_
        refine JL_skip rfl rfl q7 rfl ?_
        refine JL_skipU rfl rfl rfl ?_
        refine JL_skipU rfl rfl rfl ?_
        refine JL_skipU rfl rfl rfl ?_
        refine JL_skipU rfl rfl rfl ?_
        refine JL_skip rfl rfl q7 rfl ?_
        refine JL_pd rfl (det_pick_f rfl q7 rfl) ?_
        exact hj (by kernel_rfl) (stsub_consB rfl (by clear hj; first | rfl | (simp only [inSpot, q7, Bool.and_true, Bool.true_and, Bool.false_and, Bool.and_false, Bool.or_true, Bool.true_or, Bool.or_false, Bool.false_or, Bool.not_true, Bool.not_false]; done) | (simp [inSpot, q7]; done) | (simp [inSpot] at q7; done) | (simp [inSpot, q7] <;> omega) | (exfalso; simp [inSpot] at q7; omega)) stsub_nil)
    refine JL_nil ?_
    refine JE_seq ?_
    -- stop: cond
    refine JC_cond rfl (fun h2 => ?_) (fun h2 => ?_)
    · rw [hr, decide_eq_true he] at h2; cases h2
    · refine JC_skip ?_
      refine JE_seq ?_
      refine JC_seq ?_
      refine JC_region ?_
      refine JL_pd rfl (det_assign rfl) ?_
      refine JL_nil ?_
      refine JE_seq ?_
      refine JC_seq ?_
      refine JC_seq ?_
      refine JC_region ?_
      refine JL_pd rfl (det_move rfl) ?_
      refine JL_pd rfl (det_eql rfl rfl) ?_
      refine JL_nil ?_
      refine JE_seq ?_
      -- stop: cond
      refine JC_if rfl (fun h3 => ?_) (fun h3 => ?_)
      · refine JC_seq ?_
        refine JC_region ?_
        refine JL_pd rfl (det_assign rfl) ?_
        refine JL_nil ?_
        refine JE_seq ?_
        refine JC_seq ?_
        refine JC_draw [] (by kernel_rfl) ?_
        refine JA_dt (i := 0) rfl (by kernel_rfl) (by kernel_rfl) rfl rfl (det_loadKA rfl Try.isAgg26 Try.sizeOf26 rfl rfl) ?_
        refine JA_dt (i := 1) rfl (by kernel_rfl) (by kernel_rfl) rfl rfl (det_loadKA rfl Try.isAgg26 Try.sizeOf26 rfl rfl) ?_
        refine JA_dt (i := 2) rfl (by kernel_rfl) (by kernel_rfl) rfl rfl (det_loadKA rfl Try.isAgg53 Try.sizeOf53 rfl rfl) ?_
        refine JA_one (i := 3) (by kernel_rfl) rfl rfl (jo_callv rfl rfl Try.call28 rfl (hgl)) (fun _ => ⟨hsub_refl, fun _ h => h⟩) fun _ => ?_
        refine JA_one (i := 4) (by kernel_rfl) rfl rfl (jo_call rfl rfl Try.call27 rfl (hwy)) (fun _ => ⟨hsub_drop 0 rfl, fun _ h => h.2⟩) fun x51 => ?_
        refine JA_pd (i := 5) rfl (by kernel_rfl) rfl rfl (det_move rfl) ?_
        refine JA_pd (i := 6) rfl (by kernel_rfl) rfl rfl (det_extract rfl rfl) ?_
        refine JA_pd (i := 7) rfl (by kernel_rfl) rfl rfl (det_extract rfl rfl) ?_
        refine JA_pd (i := 8) rfl (by kernel_rfl) rfl rfl (det_assign rfl) ?_
        refine JA_pd (i := 9) rfl (by kernel_rfl) rfl rfl (det_assign rfl) ?_
        refine JA_done (by kernel_rfl) ?_
        refine JE_seq ?_
        refine JC_seq ?_
        refine JC_region ?_
        refine JL_pd rfl (det_move rfl) ?_
        refine JL_pd rfl (det_not rfl) ?_
        refine JL_nil ?_
        refine JE_seq ?_
        -- stop: cond
        refine JC_cond rfl (fun h4 => ?_) (fun h4 => ?_)
        · refine JC_region ?_
          refine JL_pd rfl (det_assign rfl) ?_
          refine JL_nil ?_
          refine JE_seq ?_
          refine JC_seq ?_
          refine JC_seq ?_
          refine JC_region ?_
          refine JL_pd rfl (det_move rfl) ?_
          refine JL_pd rfl (det_neq rfl rfl) ?_
          refine JL_nil ?_
          refine JE_seq ?_
          -- stop: cond
          refine JC_ifn rfl (fun h5 => ?_) (fun h5 => ?_)
          · refine JC_seq ?_
            refine JC_region ?_
            refine JL_pd rfl (det_move rfl) ?_
            refine JL_pd rfl (det_move rfl) ?_
            refine JL_pd rfl (det_eql rfl rfl) ?_
            refine JL_pd rfl (det_move rfl) ?_
            -- stop: guard 3
            refine JL_is (d0 := 61) true rfl (by simp) (fun h9 => ?_)
            refine JL_guard rfl rfl h9 ?_
            refine JL_pd rfl (det_move rfl) ?_
            refine JL_guard rfl rfl h9 ?_
            refine JL_pd rfl (det_len rfl Try.runUnderlying23) ?_
            refine JL_guard rfl rfl h9 ?_
            refine JL_pd rfl (det_eql rfl rfl) ?_
            refine JL_pd rfl (det_pick_t rfl h9 rfl) ?_
            refine JL_pd rfl (det_move rfl) ?_
            refine JL_is (d0 := 66) true rfl (by simp) (fun h10 => ?_)
            refine JL_guard rfl rfl h10 ?_
            refine JL_step rfl rfl rfl (jo_callv rfl rfl Try.call18 rfl (wakes_j)) fun _ => ?_
            refine JL_pd rfl (det_pick_t rfl h10 rfl) ?_
            refine JL_pd rfl (det_assign rfl) ?_
            refine JL_nil ?_
            refine JE_seq ?_
            refine JC_ret ?_
            refine JE_seq_ret ?_
            refine JE_out (.inl rfl) () (results1 Try.results11 (res_tmp rfl)) ?_ (List.Perm.refl _) (fun _ _ => trivial)
            rfl
          · cases h5
        · cases h4
      · exact absurd he h3
set_option maxRecDepth 100000 in
theorem CycleWays_s (m : Mc) (a : MA) (tg : Sd) (hth : m.steps.length ≤ 30 ∧ m.locks.length ≤ 45 ∧ m.running.length ≤ 12) (ht : thinB m = true) (he : fault m = 0) (hr : inSpot m tg = true) (l : List Int) (hw : wayO m m.locks (goalS tg) = some l) : Cv Try.prog 11 [.agg #[I m.states, .slice a.sa m.steps.length a.sc, .slice a.ra m.running.length a.rc, .slice a.ka m.locks.length a.kc], .agg #[I tg.st, I tg.sp]] (KMc m a) (.bool true) := by
  have V := valid_of he
  have s1 := V.s1
  have s2 := V.s2
  have hgl := Goal_j m a false tg V
  rw [show evB (goalG m false tg) = evB (fun j => goalS tg (sdOf j)) from by unfold evB; rw [goalG_S hr]] at hgl
  have hwy := RWay_j m a (goalS tg) V
  rw [hw, Option.getD_some, Option.isSome_some] at hwy
  have hll := wayO_len hw
  have hin := fun la lc ra rc => ints_j l l la ra lc rc (by omega)
  have hwa := fun b : MA => Way_js m b tg he hr l hw
  refine Cx_of Try.func11 rfl Try.ntmps11 rfl fun w0 M0 => ?_
  refine JC_seq ?_
  refine JC_region ?_
  refine JL_step rfl rfl rfl (jo_box rfl rfl) fun b2 => ?_
  refine JL_step rfl rfl rfl (jo_box rfl rfl) fun b3 => ?_
  refine JL_pd rfl (det_assign rfl) ?_
  refine JL_nil ?_
  refine JE_seq ?_
  refine JC_seq ?_
  refine JC_seq ?_
  refine JC_region ?_
  refine JL_dt rfl (det_loadKA rfl Try.isAgg26 Try.sizeOf26 rfl rfl) ?_
  refine JL_step rfl rfl rfl (jo_callv rfl rfl Try.call17 rfl (Thin_j m a)) fun _ => ?_
  refine JL_pd rfl (det_not rfl) ?_
  refine JL_nil ?_
  refine JE_seq ?_
  -- stop: cond
  refine JC_cond rfl (fun h1 => ?_) (fun h1 => ?_)
  · rw [ht] at h1; cases h1
  · refine JC_skip ?_
    refine JE_seq ?_
    refine JC_seq ?_
    refine JC_draw [] (by kernel_rfl) ?_
    refine JA_dt (i := 0) rfl (by kernel_rfl) (by kernel_rfl) rfl rfl (det_loadKA rfl Try.isAgg26 Try.sizeOf26 rfl rfl) ?_
    refine JA_pd (i := 2) rfl (by kernel_rfl) rfl rfl (det_fieldAddr rfl fo_53_0) ?_
    refine JA_dt (i := 3) rfl (by kernel_rfl) (by kernel_rfl) rfl rfl (det_loadK rfl Try.isAgg3 rfl) ?_
    refine JA_pd (i := 4) rfl (by kernel_rfl) rfl rfl (det_fieldAddr rfl fo_53_1) ?_
    refine JA_dt (i := 5) rfl (by kernel_rfl) (by kernel_rfl) rfl rfl (det_loadK rfl Try.isAgg3 rfl) ?_
    refine JA_pd (i := 6) rfl (by kernel_rfl) rfl rfl (det_build rfl (bld_77_0_1 _ _)) ?_
    refine JA_one (i := 1) (by kernel_rfl) rfl rfl (jo_call rfl rfl Try.call20 rfl (Machine_j m a (by omega) (by omega) (by omega))) (fun _ => ⟨hsub_drop 0 rfl, fun _ h => h.2⟩) fun x16 => ?_
    refine JA_one (i := 7) (by kernel_rfl) rfl rfl (jo_call rfl rfl Try.call44 rfl (hwa x16)) (fun _ => ⟨hsub_drop 0 rfl, fun _ h => h.2⟩) fun x22 => ?_
    refine JA_pd (i := 8) rfl (by kernel_rfl) rfl rfl (det_move rfl) ?_
    refine JA_pd (i := 9) rfl (by kernel_rfl) rfl rfl (det_extract rfl rfl) ?_
    refine JA_pd (i := 10) rfl (by kernel_rfl) rfl rfl (det_extract rfl rfl) ?_
    refine JA_pd (i := 11) rfl (by kernel_rfl) rfl rfl (det_assign rfl) ?_
    refine JA_pd (i := 12) rfl (by kernel_rfl) rfl rfl (det_assign rfl) ?_
    refine JA_done (by kernel_rfl) ?_
    refine JE_seq ?_
    refine JC_seq ?_
    refine JC_region ?_
    refine JL_dt rfl (det_loadKA rfl Try.isAgg26 Try.sizeOf26 rfl rfl) ?_
    refine JL_step rfl rfl rfl (jo_callv rfl rfl Try.call22 rfl (fault_jl m a)) fun _ => ?_
    refine JL_pd rfl (det_assign rfl) ?_
    refine JL_nil ?_
    refine JE_seq ?_
    refine JC_seq ?_
    refine JC_seq ?_
    refine JC_region ?_
    refine JL_pd rfl (det_move rfl) ?_
    refine JL_pd rfl (det_eql rfl rfl) ?_
    refine JL_pd rfl (det_move rfl) ?_
    -- stop: guard 2
    refine JL_join1 14 43 (.bool (decide (fault m = 0) && !inSpot m tg)) (fun hj => ?_) ?_
    · refine JL_split (d0 := 29) rfl (fun q11 => ?_) (fun q11 => ?_)
      · refine JL_guard rfl rfl q11 ?_
        refine JL_pd rfl (det_fieldAddr rfl fo_53_0) ?_
        refine JL_guard rfl rfl q11 ?_
        refine JL_dt rfl (det_loadK rfl Try.isAgg3 rfl) ?_
        refine JL_guard rfl rfl q11 ?_
        refine JL_pd rfl (det_fieldAddr rfl fo_26_0) ?_
        refine JL_guard rfl rfl q11 ?_
        refine JL_dt rfl (det_loadK rfl Try.isAgg3 rfl) ?_
        refine JL_guard rfl rfl q11 ?_
        refine JL_pd rfl (det_sub rfl rfl ⟨by omega, by omega⟩) ?_
        refine JL_guard rfl rfl q11 ?_
        refine JL_step rfl rfl rfl (jo_callv rfl rfl Try.call36 rfl (In_j _ _ _)) fun _ => ?_
        refine JL_guard rfl rfl q11 ?_
        refine JL_pd rfl (det_not rfl) ?_
        refine JL_guard rfl rfl q11 ?_
        refine JL_pd rfl (det_move rfl) ?_
        refine JL_split (d0 := 37) rfl (fun q12 => ?_) (fun q12 => ?_)
        · refine JL_skip rfl rfl q12 rfl ?_
          refine JL_skip rfl rfl q12 rfl ?_
          refine JL_skip rfl rfl q12 rfl ?_
          refine JL_skip rfl rfl q12 rfl ?_
          refine JL_guard rfl rfl q11 ?_
          refine JL_pd rfl (det_pick_t rfl q12 rfl) ?_
          refine JL_pd rfl (det_pick_t rfl q11 rfl) ?_
          exact hj (by kernel_rfl) (stsub_consB rfl (by clear hj; first | rfl | (simp only [inSpot, q11, q12, Bool.and_true, Bool.true_and, Bool.false_and, Bool.and_false, Bool.or_true, Bool.true_or, Bool.or_false, Bool.false_or, Bool.not_true, Bool.not_false]; done) | (simp [inSpot, q11, q12]; done) | (simp [inSpot] at q11; done) | (simp [inSpot] at q12; done) | (simp [inSpot, q11, q12] <;> omega) | (exfalso; simp [inSpot] at q11 q12; omega) | (simp [q12, inSpot] at q11; done) | (simp [q11, inSpot] at q12; done)) stsub_nil)
        · refine JL_guard rfl rfl q12 ?_
          refine JL_pd rfl (det_fieldAddr rfl fo_53_1) ?_
          refine JL_guard rfl rfl q12 ?_
          refine JL_dt rfl (det_loadK rfl Try.isAgg3 rfl) ?_
          refine JL_guard rfl rfl q12 ?_
          refine JL_step rfl rfl rfl (jo_callv rfl rfl Try.call36 rfl (In_j _ _ _)) fun _ => ?_
          refine JL_guard rfl rfl q12 ?_
          refine JL_pd rfl (det_not rfl) ?_
          refine JL_guard rfl rfl q11 ?_
          refine JL_pd rfl (det_pick_f rfl q12 rfl) ?_
          refine JL_pd rfl (det_pick_t rfl q11 rfl) ?_
          exact hj (by kernel_rfl) (stsub_consB rfl (by clear hj; first | rfl | (simp only [inSpot, q11, q12, Bool.and_true, Bool.true_and, Bool.false_and, Bool.and_false, Bool.or_true, Bool.true_or, Bool.or_false, Bool.false_or, Bool.not_true, Bool.not_false]; done) | (simp [inSpot, q11, q12]; done) | (simp [inSpot] at q11; done) | (simp [inSpot] at q12; done) | (simp [inSpot, q11, q12] <;> omega) | (exfalso; simp [inSpot] at q11 q12; omega) | (simp [q12, inSpot] at q11; done) | (simp [q11, inSpot] at q12; done)) stsub_nil)
      · refine JL_skip rfl rfl q11 rfl ?_
        refine JL_skip rfl rfl q11 rfl ?_
        refine JL_skip rfl rfl q11 rfl ?_
        refine JL_skip rfl rfl q11 rfl ?_
        refine JL_skip rfl rfl q11 rfl ?_
        refine JL_skip rfl rfl q11 rfl ?_
        refine JL_skip rfl rfl q11 rfl ?_
        refine JL_skip rfl rfl q11 rfl ?_
        refine JL_skipU rfl rfl rfl ?_
        refine JL_skipU rfl rfl rfl ?_
        refine JL_skipU rfl rfl rfl ?_
        refine JL_skipU rfl rfl rfl ?_
        refine JL_skip rfl rfl q11 rfl ?_
        refine JL_pd rfl (det_pick_f rfl q11 rfl) ?_
        exact hj (by kernel_rfl) (stsub_consB rfl (by clear hj; first | rfl | (simp only [inSpot, q11, Bool.and_true, Bool.true_and, Bool.false_and, Bool.and_false, Bool.or_true, Bool.true_or, Bool.or_false, Bool.false_or, Bool.not_true, Bool.not_false]; done) | (simp [inSpot, q11]; done) | (simp [inSpot] at q11; done) | (simp [inSpot, q11] <;> omega) | (exfalso; simp [inSpot] at q11; omega)) stsub_nil)
    refine JL_nil ?_
    refine JE_seq ?_
    -- stop: cond
    refine JC_cond rfl (fun h2 => ?_) (fun h2 => ?_)
    · rw [hr, decide_eq_true he] at h2; cases h2
    · refine JC_skip ?_
      refine JE_seq ?_
      refine JC_seq ?_
      refine JC_region ?_
      refine JL_pd rfl (det_assign rfl) ?_
      refine JL_nil ?_
      refine JE_seq ?_
      refine JC_seq ?_
      refine JC_seq ?_
      refine JC_region ?_
      refine JL_pd rfl (det_move rfl) ?_
      refine JL_pd rfl (det_eql rfl rfl) ?_
      refine JL_nil ?_
      refine JE_seq ?_
      -- stop: cond
      refine JC_if rfl (fun h3 => ?_) (fun h3 => ?_)
      · refine JC_seq ?_
        refine JC_region ?_
        refine JL_pd rfl (det_assign rfl) ?_
        refine JL_nil ?_
        refine JE_seq ?_
        refine JC_seq ?_
        refine JC_draw [] (by kernel_rfl) ?_
        refine JA_dt (i := 0) rfl (by kernel_rfl) (by kernel_rfl) rfl rfl (det_loadKA rfl Try.isAgg26 Try.sizeOf26 rfl rfl) ?_
        refine JA_dt (i := 1) rfl (by kernel_rfl) (by kernel_rfl) rfl rfl (det_loadKA rfl Try.isAgg26 Try.sizeOf26 rfl rfl) ?_
        refine JA_dt (i := 2) rfl (by kernel_rfl) (by kernel_rfl) rfl rfl (det_loadKA rfl Try.isAgg53 Try.sizeOf53 rfl rfl) ?_
        refine JA_one (i := 3) (by kernel_rfl) rfl rfl (jo_callv rfl rfl Try.call28 rfl (hgl)) (fun _ => ⟨hsub_refl, fun _ h => h⟩) fun _ => ?_
        refine JA_one (i := 4) (by kernel_rfl) rfl rfl (jo_call rfl rfl Try.call27 rfl (hwy)) (fun _ => ⟨hsub_drop 0 rfl, fun _ h => h.2⟩) fun x51 => ?_
        refine JA_pd (i := 5) rfl (by kernel_rfl) rfl rfl (det_move rfl) ?_
        refine JA_pd (i := 6) rfl (by kernel_rfl) rfl rfl (det_extract rfl rfl) ?_
        refine JA_pd (i := 7) rfl (by kernel_rfl) rfl rfl (det_extract rfl rfl) ?_
        refine JA_pd (i := 8) rfl (by kernel_rfl) rfl rfl (det_assign rfl) ?_
        refine JA_pd (i := 9) rfl (by kernel_rfl) rfl rfl (det_assign rfl) ?_
        refine JA_done (by kernel_rfl) ?_
        refine JE_seq ?_
        refine JC_seq ?_
        refine JC_region ?_
        refine JL_pd rfl (det_move rfl) ?_
        refine JL_pd rfl (det_not rfl) ?_
        refine JL_nil ?_
        refine JE_seq ?_
        -- stop: cond
        refine JC_cond rfl (fun h4 => ?_) (fun h4 => ?_)
        · cases h4
        · refine JC_skip ?_
          refine JE_seq ?_
          refine JC_seq ?_
          refine JC_seq ?_
          refine JC_region ?_
          refine JL_pd rfl (det_move rfl) ?_
          refine JL_pd rfl (det_neq rfl rfl) ?_
          refine JL_nil ?_
          refine JE_seq ?_
          -- stop: cond
          refine JC_ifn rfl (fun h5 => ?_) (fun h5 => ?_)
          · exact absurd he h5
          · refine JC_skip ?_
            refine JE_seq ?_
            refine JC_seq ?_
            refine JC_region ?_
            refine JL_pd rfl (det_move rfl) ?_
            refine JL_pd rfl (det_eql rfl rfl) ?_
            refine JL_pd rfl (det_move rfl) ?_
            -- stop: guard 2
            refine JL_is (d0 := 71) true rfl (by simp) (fun h13 => ?_)
            refine JL_guard rfl rfl h13 ?_
            refine JL_pd rfl (det_move rfl) ?_
            refine JL_guard rfl rfl h13 ?_
            refine JL_pd rfl (det_move rfl) ?_
            refine JL_guard rfl rfl h13 ?_
            refine JL_step rfl rfl rfl (jo_callv rfl rfl Try.call29 rfl (hin _ _ _ _)) fun _ => ?_
            refine JL_pd rfl (det_pick_t rfl h13 rfl) ?_
            refine JL_pd rfl (det_move rfl) ?_
            refine JL_is (d0 := 76) true rfl (by simp) (fun h14 => ?_)
            refine JL_guard rfl rfl h14 ?_
            refine JL_step rfl rfl rfl (jo_callv rfl rfl Try.call18 rfl (wakes_j)) fun _ => ?_
            refine JL_pd rfl (det_pick_t rfl h14 rfl) ?_
            refine JL_pd rfl (det_assign rfl) ?_
            refine JL_nil ?_
            refine JE_seq ?_
            refine JC_ret ?_
            refine JE_out (.inl rfl) () (results1 Try.results11 (res_tmp rfl)) ?_ (List.Perm.refl _) (fun _ _ => trivial)
            simp
      · exact absurd he h3
theorem CycleWays_t (m : Mc) (a : MA) (tg : Sd) (ht : thinB m = false) : Cv Try.prog 11 [.agg #[I m.states, .slice a.sa m.steps.length a.sc, .slice a.ra m.running.length a.rc, .slice a.ka m.locks.length a.kc], .agg #[I tg.st, I tg.sp]] (KMc m a) (.bool true) := by
  refine Cx_of Try.func11 rfl Try.ntmps11 rfl fun w0 M0 => ?_
  refine JC_seq ?_
  refine JC_region ?_
  refine JL_step rfl rfl rfl (jo_box rfl rfl) fun b2 => ?_
  refine JL_step rfl rfl rfl (jo_box rfl rfl) fun b3 => ?_
  refine JL_pd rfl (det_assign rfl) ?_
  refine JL_nil ?_
  refine JE_seq ?_
  refine JC_seq ?_
  refine JC_seq ?_
  refine JC_region ?_
  refine JL_dt rfl (det_loadKA rfl Try.isAgg26 Try.sizeOf26 rfl rfl) ?_
  refine JL_step rfl rfl rfl (jo_callv rfl rfl Try.call17 rfl (Thin_j m a)) fun _ => ?_
  refine JL_pd rfl (det_not rfl) ?_
  refine JL_nil ?_
  refine JE_seq ?_
  -- stop: cond
  refine JC_cond rfl (fun h1 => ?_) (fun h1 => ?_)
  · refine JC_seq ?_
    refine JC_region ?_
    refine JL_step rfl rfl rfl (jo_callv rfl rfl Try.call18 rfl (wakes_j)) fun _ => ?_
    refine JL_pd rfl (det_assign rfl) ?_
    refine JL_nil ?_
    refine JE_seq ?_
    refine JC_ret ?_
    refine JE_seq_ret ?_
    -- stop: out
    refine JE_out (.inl rfl) () (results1 Try.results11 (res_tmp rfl)) rfl (List.Perm.refl _) (fun _ _ => trivial)
  · rw [ht] at h1; cases h1
theorem CycleWays_j (m : Mc) (a : MA) (tg : Sd) : Cv Try.prog 11 [.agg #[I m.states, .slice a.sa m.steps.length a.sc, .slice a.ra m.running.length a.rc, .slice a.ka m.locks.length a.kc], .agg #[I tg.st, I tg.sp]] (KMc m a) (.bool true) := by
  cases ht : thinB m with
  | false => exact CycleWays_t m a tg ht
  | true =>
    have hth := thin_lens ht
    by_cases he : fault m = 0
    · cases hr : inSpot m tg with
      | false => exact CycleWays_r m a tg hth ht he hr
      | true =>
        cases hw : wayO m m.locks (goalS tg) with
        | none => exact CycleWays_n m a tg hth ht he hr hw
        | some l => exact CycleWays_s m a tg hth ht he hr l hw
    · exact CycleWays_e m a tg hth ht he
set_option maxRecDepth 100000 in
theorem CycleDangers_e (m : Mc) (a : MA) (hth : m.steps.length ≤ 30 ∧ m.locks.length ≤ 45 ∧ m.running.length ≤ 12) (ht : thinB m = true) (he : fault m ≠ 0) : Cv Try.prog 4 [.agg #[I m.states, .slice a.sa m.steps.length a.sc, .slice a.ra m.running.length a.rc, .slice a.ka m.locks.length a.kc]] (KMc m a) (.bool true) := by
  have hwa := fun b : MA => Danger_je m b he
  refine Cx_of Try.func4 rfl Try.ntmps4 rfl fun w0 M0 => ?_
  refine JC_seq ?_
  refine JC_region ?_
  refine JL_step rfl rfl rfl (jo_box rfl rfl) fun b1 => ?_
  refine JL_pd rfl (det_assign rfl) ?_
  refine JL_nil ?_
  refine JE_seq ?_
  refine JC_seq ?_
  refine JC_seq ?_
  refine JC_region ?_
  refine JL_dt rfl (det_loadKA rfl Try.isAgg26 Try.sizeOf26 rfl rfl) ?_
  refine JL_step rfl rfl rfl (jo_callv rfl rfl Try.call17 rfl (Thin_j m a)) fun _ => ?_
  refine JL_pd rfl (det_not rfl) ?_
  refine JL_nil ?_
  refine JE_seq ?_
  -- stop: cond
  refine JC_cond rfl (fun h1 => ?_) (fun h1 => ?_)
  · rw [ht] at h1; cases h1
  · refine JC_skip ?_
    refine JE_seq ?_
    refine JC_seq ?_
    refine JC_region ?_
    refine JL_dt rfl (det_loadKA rfl Try.isAgg26 Try.sizeOf26 rfl rfl) ?_
    refine JL_step rfl rfl rfl (jo_call rfl rfl Try.call20 rfl (Machine_j m a (by omega) (by omega) (by omega))) fun x14 => ?_
    refine JL_step rfl rfl rfl (jo_callv rfl rfl Try.call26 rfl (hwa x14)) fun _ => ?_
    refine JL_pd rfl (det_move rfl) ?_
    refine JL_pd rfl (det_extract rfl rfl) ?_
    refine JL_pd rfl (det_extract rfl rfl) ?_
    refine JL_pd rfl (det_assign rfl) ?_
    refine JL_pd rfl (det_assign rfl) ?_
    refine JL_nil ?_
    refine JE_seq ?_
    refine JC_seq ?_
    refine JC_region ?_
    refine JL_dt rfl (det_loadKA rfl Try.isAgg26 Try.sizeOf26 rfl rfl) ?_
    refine JL_step rfl rfl rfl (jo_callv rfl rfl Try.call22 rfl (fault_jl m a)) fun _ => ?_
    refine JL_pd rfl (det_assign rfl) ?_
    refine JL_nil ?_
    refine JE_seq ?_
    refine JC_seq ?_
    refine JC_region ?_
    refine JL_pd rfl (det_assign rfl) ?_
    refine JL_nil ?_
    refine JE_seq ?_
    refine JC_seq ?_
    refine JC_seq ?_
    refine JC_region ?_
    refine JL_pd rfl (det_move rfl) ?_
    refine JL_pd rfl (det_eql rfl rfl) ?_
    refine JL_nil ?_
    refine JE_seq ?_
    -- stop: cond
    refine JC_if rfl (fun h3 => ?_) (fun h3 => ?_)
    · exact absurd h3 he
    · refine JC_skip ?_
      refine JE_seq ?_
      refine JC_seq ?_
      refine JC_seq ?_
      refine JC_region ?_
      refine JL_pd rfl (det_move rfl) ?_
      refine JL_pd rfl (det_neq rfl rfl) ?_
      refine JL_nil ?_
      refine JE_seq ?_
      -- stop: cond
      refine JC_ifn rfl (fun h4 => ?_) (fun h4 => ?_)
      · refine JC_seq ?_
        refine JC_region ?_
        refine JL_pd rfl (det_move rfl) ?_
        refine JL_pd rfl (det_move rfl) ?_
        refine JL_pd rfl (det_eql rfl rfl) ?_
        refine JL_pd rfl (det_move rfl) ?_
        -- stop: guard 3
        refine JL_is (d0 := 37) true rfl (by simp) (fun h15 => ?_)
        refine JL_guard rfl rfl h15 ?_
        refine JL_pd rfl (det_move rfl) ?_
        refine JL_guard rfl rfl h15 ?_
        refine JL_pd rfl (det_len rfl Try.runUnderlying23) ?_
        refine JL_guard rfl rfl h15 ?_
        refine JL_pd rfl (det_eql rfl rfl) ?_
        refine JL_pd rfl (det_pick_t rfl h15 rfl) ?_
        refine JL_pd rfl (det_move rfl) ?_
        refine JL_is (d0 := 42) true rfl (by simp) (fun h16 => ?_)
        refine JL_guard rfl rfl h16 ?_
        refine JL_step rfl rfl rfl (jo_callv rfl rfl Try.call18 rfl (wakes_j)) fun _ => ?_
        refine JL_pd rfl (det_pick_t rfl h16 rfl) ?_
        refine JL_pd rfl (det_assign rfl) ?_
        refine JL_nil ?_
        refine JE_seq ?_
        refine JC_ret ?_
        refine JE_seq_ret ?_
        refine JE_out (.inl rfl) () (results1 Try.results4 (res_tmp rfl)) ?_ (List.Perm.refl _) (fun _ _ => trivial)
        rfl
      · exact absurd h4 he
set_option maxRecDepth 100000 in
theorem CycleDangers_n (m : Mc) (a : MA) (hth : m.steps.length ≤ 30 ∧ m.locks.length ≤ 45 ∧ m.running.length ≤ 12) (ht : thinB m = true) (he : fault m = 0) (hw : wayO m m.locks (dangerB m) = none) : Cv Try.prog 4 [.agg #[I m.states, .slice a.sa m.steps.length a.sc, .slice a.ra m.running.length a.rc, .slice a.ka m.locks.length a.kc]] (KMc m a) (.bool true) := by
  have V := valid_of he
  have hgl := Goal_j m a true ⟨0, 0⟩ V
  rw [show evB (goalG m true ⟨0, 0⟩) = evB (fun j => dangerB m (sdOf j)) from by unfold evB; rw [goalG_D V]] at hgl
  have hwy := RWay_j m a (dangerB m) V
  rw [hw] at hwy
  have hwa := fun b : MA => Danger_jn m b he hw
  refine Cx_of Try.func4 rfl Try.ntmps4 rfl fun w0 M0 => ?_
  refine JC_seq ?_
  refine JC_region ?_
  refine JL_step rfl rfl rfl (jo_box rfl rfl) fun b1 => ?_
  refine JL_pd rfl (det_assign rfl) ?_
  refine JL_nil ?_
  refine JE_seq ?_
  refine JC_seq ?_
  refine JC_seq ?_
  refine JC_region ?_
  refine JL_dt rfl (det_loadKA rfl Try.isAgg26 Try.sizeOf26 rfl rfl) ?_
  refine JL_step rfl rfl rfl (jo_callv rfl rfl Try.call17 rfl (Thin_j m a)) fun _ => ?_
  refine JL_pd rfl (det_not rfl) ?_
  refine JL_nil ?_
  refine JE_seq ?_
  -- stop: cond
  refine JC_cond rfl (fun h1 => ?_) (fun h1 => ?_)
  · rw [ht] at h1; cases h1
  · refine JC_skip ?_
    refine JE_seq ?_
    refine JC_seq ?_
    refine JC_region ?_
    refine JL_dt rfl (det_loadKA rfl Try.isAgg26 Try.sizeOf26 rfl rfl) ?_
    refine JL_step rfl rfl rfl (jo_call rfl rfl Try.call20 rfl (Machine_j m a (by omega) (by omega) (by omega))) fun x14 => ?_
    refine JL_step rfl rfl rfl (jo_callv rfl rfl Try.call26 rfl (hwa x14)) fun _ => ?_
    refine JL_pd rfl (det_move rfl) ?_
    refine JL_pd rfl (det_extract rfl rfl) ?_
    refine JL_pd rfl (det_extract rfl rfl) ?_
    refine JL_pd rfl (det_assign rfl) ?_
    refine JL_pd rfl (det_assign rfl) ?_
    refine JL_nil ?_
    refine JE_seq ?_
    refine JC_seq ?_
    refine JC_region ?_
    refine JL_dt rfl (det_loadKA rfl Try.isAgg26 Try.sizeOf26 rfl rfl) ?_
    refine JL_step rfl rfl rfl (jo_callv rfl rfl Try.call22 rfl (fault_jl m a)) fun _ => ?_
    refine JL_pd rfl (det_assign rfl) ?_
    refine JL_nil ?_
    refine JE_seq ?_
    refine JC_seq ?_
    refine JC_region ?_
    refine JL_pd rfl (det_assign rfl) ?_
    refine JL_nil ?_
    refine JE_seq ?_
    refine JC_seq ?_
    refine JC_seq ?_
    refine JC_region ?_
    refine JL_pd rfl (det_move rfl) ?_
    refine JL_pd rfl (det_eql rfl rfl) ?_
    refine JL_nil ?_
    refine JE_seq ?_
    -- stop: cond
    refine JC_if rfl (fun h3 => ?_) (fun h3 => ?_)
    · refine JC_seq ?_
      refine JC_region ?_
      refine JL_pd rfl (det_assign rfl) ?_
      refine JL_nil ?_
      refine JE_seq ?_
      refine JC_seq ?_
      refine JC_draw [] (by kernel_rfl) ?_
      refine JA_dt (i := 0) rfl (by kernel_rfl) (by kernel_rfl) rfl rfl (det_loadKA rfl Try.isAgg26 Try.sizeOf26 rfl rfl) ?_
      refine JA_dt (i := 1) rfl (by kernel_rfl) (by kernel_rfl) rfl rfl (det_loadKA rfl Try.isAgg26 Try.sizeOf26 rfl rfl) ?_
      refine JA_pd (i := 2) rfl (by kernel_rfl) rfl rfl (det_build rfl (bld_53)) ?_
      refine JA_one (i := 3) (by kernel_rfl) rfl rfl (jo_callv rfl rfl Try.call28 rfl (hgl)) (fun _ => ⟨hsub_refl, fun _ h => h⟩) fun _ => ?_
      refine JA_one (i := 4) (by kernel_rfl) rfl rfl (jo_call rfl rfl Try.call27 rfl (hwy)) (fun _ => ⟨hsub_drop 0 rfl, fun _ h => h.2⟩) fun x27 => ?_
      refine JA_pd (i := 5) rfl (by kernel_rfl) rfl rfl (det_move rfl) ?_
      refine JA_pd (i := 6) rfl (by kernel_rfl) rfl rfl (det_extract rfl rfl) ?_
      refine JA_pd (i := 7) rfl (by kernel_rfl) rfl rfl (det_extract rfl rfl) ?_
      refine JA_pd (i := 8) rfl (by kernel_rfl) rfl rfl (det_assign rfl) ?_
      refine JA_pd (i := 9) rfl (by kernel_rfl) rfl rfl (det_assign rfl) ?_
      refine JA_done (by kernel_rfl) ?_
      refine JE_seq ?_
      refine JC_seq ?_
      refine JC_region ?_
      refine JL_pd rfl (det_move rfl) ?_
      refine JL_pd rfl (det_not rfl) ?_
      refine JL_nil ?_
      refine JE_seq ?_
      -- stop: cond
      refine JC_cond rfl (fun h4 => ?_) (fun h4 => ?_)
      · refine JC_region ?_
        refine JL_pd rfl (det_assign rfl) ?_
        refine JL_nil ?_
        refine JE_seq ?_
        refine JC_seq ?_
        refine JC_seq ?_
        refine JC_region ?_
        refine JL_pd rfl (det_move rfl) ?_
        refine JL_pd rfl (det_neq rfl rfl) ?_
        refine JL_nil ?_
        refine JE_seq ?_
        -- stop: cond
        refine JC_ifn rfl (fun h5 => ?_) (fun h5 => ?_)
        · refine JC_seq ?_
          refine JC_region ?_
          refine JL_pd rfl (det_move rfl) ?_
          refine JL_pd rfl (det_move rfl) ?_
          refine JL_pd rfl (det_eql rfl rfl) ?_
          refine JL_pd rfl (det_move rfl) ?_
          -- stop: guard 3
          refine JL_is (d0 := 37) true rfl (by simp) (fun h17 => ?_)
          refine JL_guard rfl rfl h17 ?_
          refine JL_pd rfl (det_move rfl) ?_
          refine JL_guard rfl rfl h17 ?_
          refine JL_pd rfl (det_len rfl Try.runUnderlying23) ?_
          refine JL_guard rfl rfl h17 ?_
          refine JL_pd rfl (det_eql rfl rfl) ?_
          refine JL_pd rfl (det_pick_t rfl h17 rfl) ?_
          refine JL_pd rfl (det_move rfl) ?_
          refine JL_is (d0 := 42) true rfl (by simp) (fun h18 => ?_)
          refine JL_guard rfl rfl h18 ?_
          refine JL_step rfl rfl rfl (jo_callv rfl rfl Try.call18 rfl (wakes_j)) fun _ => ?_
          refine JL_pd rfl (det_pick_t rfl h18 rfl) ?_
          refine JL_pd rfl (det_assign rfl) ?_
          refine JL_nil ?_
          refine JE_seq ?_
          refine JC_ret ?_
          refine JE_seq_ret ?_
          refine JE_out (.inl rfl) () (results1 Try.results4 (res_tmp rfl)) ?_ (List.Perm.refl _) (fun _ _ => trivial)
          rfl
        · cases h5
      · cases h4
    · exact absurd he h3
set_option maxRecDepth 100000 in
theorem CycleDangers_s (m : Mc) (a : MA) (hth : m.steps.length ≤ 30 ∧ m.locks.length ≤ 45 ∧ m.running.length ≤ 12) (ht : thinB m = true) (he : fault m = 0) (l : List Int) (hw : wayO m m.locks (dangerB m) = some l) : Cv Try.prog 4 [.agg #[I m.states, .slice a.sa m.steps.length a.sc, .slice a.ra m.running.length a.rc, .slice a.ka m.locks.length a.kc]] (KMc m a) (.bool true) := by
  have V := valid_of he
  have hgl := Goal_j m a true ⟨0, 0⟩ V
  rw [show evB (goalG m true ⟨0, 0⟩) = evB (fun j => dangerB m (sdOf j)) from by unfold evB; rw [goalG_D V]] at hgl
  have hwy := RWay_j m a (dangerB m) V
  rw [hw, Option.getD_some, Option.isSome_some] at hwy
  have hll := wayO_len hw
  have hin := fun la lc ra rc => ints_j l l la ra lc rc (by omega)
  have hwa := fun b : MA => Danger_js m b he l hw
  refine Cx_of Try.func4 rfl Try.ntmps4 rfl fun w0 M0 => ?_
  refine JC_seq ?_
  refine JC_region ?_
  refine JL_step rfl rfl rfl (jo_box rfl rfl) fun b1 => ?_
  refine JL_pd rfl (det_assign rfl) ?_
  refine JL_nil ?_
  refine JE_seq ?_
  refine JC_seq ?_
  refine JC_seq ?_
  refine JC_region ?_
  refine JL_dt rfl (det_loadKA rfl Try.isAgg26 Try.sizeOf26 rfl rfl) ?_
  refine JL_step rfl rfl rfl (jo_callv rfl rfl Try.call17 rfl (Thin_j m a)) fun _ => ?_
  refine JL_pd rfl (det_not rfl) ?_
  refine JL_nil ?_
  refine JE_seq ?_
  -- stop: cond
  refine JC_cond rfl (fun h1 => ?_) (fun h1 => ?_)
  · rw [ht] at h1; cases h1
  · refine JC_skip ?_
    refine JE_seq ?_
    refine JC_seq ?_
    refine JC_region ?_
    refine JL_dt rfl (det_loadKA rfl Try.isAgg26 Try.sizeOf26 rfl rfl) ?_
    refine JL_step rfl rfl rfl (jo_call rfl rfl Try.call20 rfl (Machine_j m a (by omega) (by omega) (by omega))) fun x14 => ?_
    refine JL_step rfl rfl rfl (jo_call rfl rfl Try.call26 rfl (hwa x14)) fun x15 => ?_
    refine JL_pd rfl (det_move rfl) ?_
    refine JL_pd rfl (det_extract rfl rfl) ?_
    refine JL_pd rfl (det_extract rfl rfl) ?_
    refine JL_pd rfl (det_assign rfl) ?_
    refine JL_pd rfl (det_assign rfl) ?_
    refine JL_nil ?_
    refine JE_seq ?_
    refine JC_seq ?_
    refine JC_region ?_
    refine JL_dt rfl (det_loadKA rfl Try.isAgg26 Try.sizeOf26 rfl rfl) ?_
    refine JL_step rfl rfl rfl (jo_callv rfl rfl Try.call22 rfl (fault_jl m a)) fun _ => ?_
    refine JL_pd rfl (det_assign rfl) ?_
    refine JL_nil ?_
    refine JE_seq ?_
    refine JC_seq ?_
    refine JC_region ?_
    refine JL_pd rfl (det_assign rfl) ?_
    refine JL_nil ?_
    refine JE_seq ?_
    refine JC_seq ?_
    refine JC_seq ?_
    refine JC_region ?_
    refine JL_pd rfl (det_move rfl) ?_
    refine JL_pd rfl (det_eql rfl rfl) ?_
    refine JL_nil ?_
    refine JE_seq ?_
    -- stop: cond
    refine JC_if rfl (fun h3 => ?_) (fun h3 => ?_)
    · refine JC_seq ?_
      refine JC_region ?_
      refine JL_pd rfl (det_assign rfl) ?_
      refine JL_nil ?_
      refine JE_seq ?_
      refine JC_seq ?_
      refine JC_draw [] (by kernel_rfl) ?_
      refine JA_dt (i := 0) rfl (by kernel_rfl) (by kernel_rfl) rfl rfl (det_loadKA rfl Try.isAgg26 Try.sizeOf26 rfl rfl) ?_
      refine JA_dt (i := 1) rfl (by kernel_rfl) (by kernel_rfl) rfl rfl (det_loadKA rfl Try.isAgg26 Try.sizeOf26 rfl rfl) ?_
      refine JA_pd (i := 2) rfl (by kernel_rfl) rfl rfl (det_build rfl (bld_53)) ?_
      refine JA_one (i := 3) (by kernel_rfl) rfl rfl (jo_callv rfl rfl Try.call28 rfl (hgl)) (fun _ => ⟨hsub_refl, fun _ h => h⟩) fun _ => ?_
      refine JA_one (i := 4) (by kernel_rfl) rfl rfl (jo_call rfl rfl Try.call27 rfl (hwy)) (fun _ => ⟨hsub_drop 0 rfl, fun _ h => h.2⟩) fun x27 => ?_
      refine JA_pd (i := 5) rfl (by kernel_rfl) rfl rfl (det_move rfl) ?_
      refine JA_pd (i := 6) rfl (by kernel_rfl) rfl rfl (det_extract rfl rfl) ?_
      refine JA_pd (i := 7) rfl (by kernel_rfl) rfl rfl (det_extract rfl rfl) ?_
      refine JA_pd (i := 8) rfl (by kernel_rfl) rfl rfl (det_assign rfl) ?_
      refine JA_pd (i := 9) rfl (by kernel_rfl) rfl rfl (det_assign rfl) ?_
      refine JA_done (by kernel_rfl) ?_
      refine JE_seq ?_
      refine JC_seq ?_
      refine JC_region ?_
      refine JL_pd rfl (det_move rfl) ?_
      refine JL_pd rfl (det_not rfl) ?_
      refine JL_nil ?_
      refine JE_seq ?_
      -- stop: cond
      refine JC_cond rfl (fun h4 => ?_) (fun h4 => ?_)
      · cases h4
      · refine JC_skip ?_
        refine JE_seq ?_
        refine JC_seq ?_
        refine JC_seq ?_
        refine JC_region ?_
        refine JL_pd rfl (det_move rfl) ?_
        refine JL_pd rfl (det_neq rfl rfl) ?_
        refine JL_nil ?_
        refine JE_seq ?_
        -- stop: cond
        refine JC_ifn rfl (fun h5 => ?_) (fun h5 => ?_)
        · exact absurd he h5
        · refine JC_skip ?_
          refine JE_seq ?_
          refine JC_seq ?_
          refine JC_region ?_
          refine JL_pd rfl (det_move rfl) ?_
          refine JL_pd rfl (det_eql rfl rfl) ?_
          refine JL_pd rfl (det_move rfl) ?_
          -- stop: guard 2
          refine JL_is (d0 := 47) true rfl (by simp) (fun h19 => ?_)
          refine JL_guard rfl rfl h19 ?_
          refine JL_pd rfl (det_move rfl) ?_
          refine JL_guard rfl rfl h19 ?_
          refine JL_pd rfl (det_move rfl) ?_
          refine JL_guard rfl rfl h19 ?_
          refine JL_step rfl rfl rfl (jo_callv rfl rfl Try.call29 rfl (hin _ _ _ _)) fun _ => ?_
          refine JL_pd rfl (det_pick_t rfl h19 rfl) ?_
          refine JL_pd rfl (det_move rfl) ?_
          refine JL_is (d0 := 52) true rfl (by simp) (fun h20 => ?_)
          refine JL_guard rfl rfl h20 ?_
          refine JL_step rfl rfl rfl (jo_callv rfl rfl Try.call18 rfl (wakes_j)) fun _ => ?_
          refine JL_pd rfl (det_pick_t rfl h20 rfl) ?_
          refine JL_pd rfl (det_assign rfl) ?_
          refine JL_nil ?_
          refine JE_seq ?_
          refine JC_ret ?_
          refine JE_out (.inl rfl) () (results1 Try.results4 (res_tmp rfl)) ?_ (List.Perm.refl _) (fun _ _ => trivial)
          simp
    · exact absurd he h3
theorem CycleDangers_t (m : Mc) (a : MA) (ht : thinB m = false) : Cv Try.prog 4 [.agg #[I m.states, .slice a.sa m.steps.length a.sc, .slice a.ra m.running.length a.rc, .slice a.ka m.locks.length a.kc]] (KMc m a) (.bool true) := by
  refine Cx_of Try.func4 rfl Try.ntmps4 rfl fun w0 M0 => ?_
  refine JC_seq ?_
  refine JC_region ?_
  refine JL_step rfl rfl rfl (jo_box rfl rfl) fun b1 => ?_
  refine JL_pd rfl (det_assign rfl) ?_
  refine JL_nil ?_
  refine JE_seq ?_
  refine JC_seq ?_
  refine JC_seq ?_
  refine JC_region ?_
  refine JL_dt rfl (det_loadKA rfl Try.isAgg26 Try.sizeOf26 rfl rfl) ?_
  refine JL_step rfl rfl rfl (jo_callv rfl rfl Try.call17 rfl (Thin_j m a)) fun _ => ?_
  refine JL_pd rfl (det_not rfl) ?_
  refine JL_nil ?_
  refine JE_seq ?_
  -- stop: cond
  refine JC_cond rfl (fun h1 => ?_) (fun h1 => ?_)
  · refine JC_seq ?_
    refine JC_region ?_
    refine JL_step rfl rfl rfl (jo_callv rfl rfl Try.call18 rfl (wakes_j)) fun _ => ?_
    refine JL_pd rfl (det_assign rfl) ?_
    refine JL_nil ?_
    refine JE_seq ?_
    refine JC_ret ?_
    refine JE_seq_ret ?_
    -- stop: out
    refine JE_out (.inl rfl) () (results1 Try.results4 (res_tmp rfl)) rfl (List.Perm.refl _) (fun _ _ => trivial)
  · rw [ht] at h1; cases h1
theorem CycleDangers_j (m : Mc) (a : MA) : Cv Try.prog 4 [.agg #[I m.states, .slice a.sa m.steps.length a.sc, .slice a.ra m.running.length a.rc, .slice a.ka m.locks.length a.kc]] (KMc m a) (.bool true) := by
  cases ht : thinB m with
  | false => exact CycleDangers_t m a ht
  | true =>
    have hth := thin_lens ht
    by_cases he : fault m = 0
    · cases hw : wayO m m.locks (dangerB m) with
      | none => exact CycleDangers_n m a hth ht he hw
      | some l => exact CycleDangers_s m a hth ht he l hw
    · exact CycleDangers_e m a hth ht he
end Go.Proofs.Ytgbfjcgjcnndpaa

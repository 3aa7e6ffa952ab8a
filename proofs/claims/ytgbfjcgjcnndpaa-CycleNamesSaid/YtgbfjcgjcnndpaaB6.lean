/- Own texts, laid together: C17 C18 C19 C20 Sh C21 C22. Nothing is asked. -/
import Derived.Test.YtgbfjcgjcnndpaaB5
import Derived.Shelf.SlGeneric
import Derived.Shelf.SlSortCmp.WholeK
import Derived.Ground.SlsfProg
import Derived.Test.YtgbfjcgjcnndpaaProg
import Derived.Shelf.SlSortCmp.NoneTotal
import Derived.ChangeKeysEq
set_option linter.unusedSimpArgs false
set_option linter.unusedVariables false
/- Walks of cycle: Way and Danger. -/
namespace Go.Proofs.Ytgbfjcgjcnndpaa
open Go.RowKit Go.Shelf

theorem Way1_j (tg : Sd) (b : Nat) (x : Sd) : Cv Try.prog 75 [.agg #[I x.st, I x.sp], pt b] (KBox b [I tg.st, I tg.sp]) (.bool (decide (x = tg))) := by
  refine Cx_of Try.func75 rfl Try.ntmps75 rfl fun w0 M0 => ?_
  refine JC_seq ?_
  refine JC_region ?_
  refine JL_step rfl rfl rfl (jo_box rfl rfl) fun b2 => ?_
  refine JL_pd rfl (det_assign rfl) ?_
  refine JL_nil ?_
  refine JE_seq ?_
  refine JC_seq ?_
  refine JC_region ?_
  refine JL_dt rfl (det_loadKA rfl Try.isAgg77 Try.sizeOf77 rfl rfl) ?_
  refine JL_dt rfl (det_loadKA rfl Try.isAgg77 Try.sizeOf77 rfl rfl) ?_
  refine JL_pd rfl (det_eqlA rfl rfl egt_77 (eqa_77 _ _ _ _)) ?_
  refine JL_pd rfl (det_assign rfl) ?_
  refine JL_nil ?_
  refine JE_seq ?_
  refine JC_ret ?_
  -- stop: out
  refine JE_out (.inl rfl) () (results1 Try.results75 (res_tmp rfl)) (by congr 1; rw [Bool.eq_iff_iff]; simp [Sd.ext']) (List.Perm.refl _) (fun _ _ => trivial)
def goalS (tg : Sd) : Sd → Bool := fun x => decide (x = tg)
def inSpot (m : Mc) (tg : Sd) : Bool := inI tg.st 0 (m.states - 1) && inI tg.sp 0 2
theorem Way_je (m : Mc) (a : MA) (tg : Sd) (he : fault m ≠ 0) : Cv Try.prog 44 [.agg #[I m.states, .slice a.sa m.steps.length a.sc, .slice a.ra m.running.length a.rc, .slice a.ka m.locks.length a.kc], .agg #[I tg.st, I tg.sp]] (KMc m a) (.tuple #[.slice none 0 0, I (fault m)]) := by
  refine Cx_of Try.func44 rfl Try.ntmps44 rfl fun w0 M0 => ?_
  refine JC_seq ?_
  refine JC_region ?_
  refine JL_step rfl rfl rfl (jo_box rfl rfl) fun b2 => ?_
  refine JL_step rfl rfl rfl (jo_box rfl rfl) fun b3 => ?_
  refine JL_pd rfl (det_assign rfl) ?_
  refine JL_pd rfl (det_assign rfl) ?_
  refine JL_nil ?_
  refine JE_seq ?_
  refine JC_seq ?_
  refine JC_seq ?_
  refine JC_region ?_
  refine JL_dt rfl (det_loadKA rfl Try.isAgg34 Try.sizeOf34 rfl rfl) ?_
  refine JL_step rfl rfl rfl (jo_callv rfl rfl Try.call19 rfl (CheckMachine_j m a)) fun _ => ?_
  refine JL_pd rfl (det_assign rfl) ?_
  refine JL_nil ?_
  refine JE_seq ?_
  refine JC_seq ?_
  refine JC_region ?_
  refine JL_pd rfl (det_move rfl) ?_
  refine JL_pd rfl (det_neq rfl rfl) ?_
  refine JL_nil ?_
  refine JE_seq ?_
  -- stop: cond
  refine JC_ifn rfl (fun h1 => ?_) (fun h1 => ?_)
  · refine JC_seq ?_
    refine JC_region ?_
    refine JL_pd rfl (det_move rfl) ?_
    refine JL_pd rfl (det_assign rfl) ?_
    refine JL_pd rfl (det_assign rfl) ?_
    refine JL_nil ?_
    refine JE_seq ?_
    refine JC_ret ?_
    refine JE_seq_ret ?_
    -- stop: out
    refine JE_out (.inl rfl) () (results2 Try.results44 (res_tmp rfl) (res_tmp rfl)) rfl (List.Perm.refl _) (fun _ _ => trivial)
  · exact absurd h1 he
theorem Way_jr (m : Mc) (a : MA) (tg : Sd) (he : fault m = 0) (hr : inSpot m tg = false) : Cv Try.prog 44 [.agg #[I m.states, .slice a.sa m.steps.length a.sc, .slice a.ra m.running.length a.rc, .slice a.ka m.locks.length a.kc], .agg #[I tg.st, I tg.sp]] (KMc m a) (.tuple #[.slice none 0 0, I 2]) := by
  have V := valid_of he
  refine Cx_of Try.func44 rfl Try.ntmps44 rfl fun w0 M0 => ?_
  refine JC_seq ?_
  refine JC_region ?_
  refine JL_step rfl rfl rfl (jo_box rfl rfl) fun b2 => ?_
  refine JL_step rfl rfl rfl (jo_box rfl rfl) fun b3 => ?_
  refine JL_pd rfl (det_assign rfl) ?_
  refine JL_pd rfl (det_assign rfl) ?_
  refine JL_nil ?_
  refine JE_seq ?_
  refine JC_seq ?_
  refine JC_seq ?_
  refine JC_region ?_
  refine JL_dt rfl (det_loadKA rfl Try.isAgg34 Try.sizeOf34 rfl rfl) ?_
  refine JL_step rfl rfl rfl (jo_callv rfl rfl Try.call19 rfl (CheckMachine_j m a)) fun _ => ?_
  refine JL_pd rfl (det_assign rfl) ?_
  refine JL_nil ?_
  refine JE_seq ?_
  refine JC_seq ?_
  refine JC_region ?_
  refine JL_pd rfl (det_move rfl) ?_
  refine JL_pd rfl (det_neq rfl rfl) ?_
  refine JL_nil ?_
  refine JE_seq ?_
  -- stop: cond
  refine JC_ifn rfl (fun h1 => ?_) (fun h1 => ?_)
  · exact absurd he h1
  · refine JC_skip ?_
    refine JE_seq ?_
    refine JC_seq ?_
    refine JC_seq ?_
    refine JC_region ?_
    refine JL_dt rfl (det_loadKA rfl Try.isAgg34 Try.sizeOf34 rfl rfl) ?_
    refine JL_pd rfl (det_fieldAddr rfl fo_77_0) ?_
    refine JL_dt rfl (det_loadK rfl Try.isAgg3 rfl) ?_
    refine JL_step rfl rfl rfl (jo_callv rfl rfl Try.call55 rfl (state_j m a _ ⟨V.s1, V.s2⟩)) fun _ => ?_
    refine JL_pd rfl (det_not rfl) ?_
    refine JL_pd rfl (det_move rfl) ?_
    -- stop: guard 5
    refine JL_join1 5 24 (.bool (!inSpot m tg)) (fun hj => ?_) ?_
    · refine JL_split (d0 := 19) rfl (fun q1 => ?_) (fun q1 => ?_)
      · refine JL_skip rfl rfl q1 rfl ?_
        refine JL_skip rfl rfl q1 rfl ?_
        refine JL_skip rfl rfl q1 rfl ?_
        refine JL_skip rfl rfl q1 rfl ?_
        refine JL_pd rfl (det_pick_t rfl q1 rfl) ?_
        exact hj (by kernel_rfl) (stsub_consB rfl (by clear hj; first | rfl | (simp only [inSpot, q1, Bool.and_true, Bool.true_and, Bool.false_and, Bool.and_false, Bool.or_true, Bool.true_or, Bool.or_false, Bool.false_or, Bool.not_true, Bool.not_false]; done) | (simp [inSpot, q1]; done) | (simp [inSpot] at q1; done) | (simp [inSpot, q1] <;> omega) | (exfalso; simp [inSpot] at q1; omega)) stsub_nil)
      · refine JL_guard rfl rfl q1 ?_
        refine JL_pd rfl (det_fieldAddr rfl fo_77_1) ?_
        refine JL_guard rfl rfl q1 ?_
        refine JL_dt rfl (det_loadK rfl Try.isAgg3 rfl) ?_
        refine JL_guard rfl rfl q1 ?_
        refine JL_step rfl rfl rfl (jo_callv rfl rfl Try.call51 rfl (within_j _ _ _)) fun _ => ?_
        refine JL_guard rfl rfl q1 ?_
        refine JL_pd rfl (det_not rfl) ?_
        refine JL_pd rfl (det_pick_f rfl q1 rfl) ?_
        exact hj (by kernel_rfl) (stsub_consB rfl (by clear hj; first | rfl | (simp only [inSpot, q1, Bool.and_true, Bool.true_and, Bool.false_and, Bool.and_false, Bool.or_true, Bool.true_or, Bool.or_false, Bool.false_or, Bool.not_true, Bool.not_false]; done) | (simp [inSpot, q1]; done) | (simp [inSpot] at q1; done) | (simp [inSpot, q1] <;> omega) | (exfalso; simp [inSpot] at q1; omega)) stsub_nil)
    refine JL_nil ?_
    refine JE_seq ?_
    -- stop: cond
    refine JC_cond rfl (fun h2 => ?_) (fun h2 => ?_)
    · refine JC_seq ?_
      refine JC_region ?_
      refine JL_pd rfl (det_assign rfl) ?_
      refine JL_pd rfl (det_assign rfl) ?_
      refine JL_nil ?_
      refine JE_seq ?_
      refine JC_ret ?_
      refine JE_seq_ret ?_
      -- stop: out
      refine JE_out (.inl rfl) () (results2 Try.results44 (res_tmp rfl) (res_tmp rfl)) rfl (List.Perm.refl _) (fun _ _ => trivial)
    · rw [hr] at h2; cases h2
theorem Way_jn (m : Mc) (a : MA) (tg : Sd) (he : fault m = 0) (hr : inSpot m tg = true) (hw : wayO m m.locks (goalS tg) = none) : Cv Try.prog 44 [.agg #[I m.states, .slice a.sa m.steps.length a.sc, .slice a.ra m.running.length a.rc, .slice a.ka m.locks.length a.kc], .agg #[I tg.st, I tg.sp]] (KMc m a) (.tuple #[.slice none 0 0, I 9]) := by
  have V := valid_of he
  have hl := V.nl
  have hgo := fun b3 hb mb => way_jn m a hb mb V (goalS tg) 75 [] [pt b3] (KBox b3 [I tg.st, I tg.sp]) Try.call75 (fun x => Way1_j tg b3 x) hw
  refine Cx_of Try.func44 rfl Try.ntmps44 rfl fun w0 M0 => ?_
  refine JC_seq ?_
  refine JC_region ?_
  refine JL_step rfl rfl rfl (jo_box rfl rfl) fun b2 => ?_
  refine JL_step rfl rfl rfl (jo_box rfl rfl) fun b3 => ?_
  refine JL_pd rfl (det_assign rfl) ?_
  refine JL_pd rfl (det_assign rfl) ?_
  refine JL_nil ?_
  refine JE_seq ?_
  refine JC_seq ?_
  refine JC_seq ?_
  refine JC_region ?_
  refine JL_dt rfl (det_loadKA rfl Try.isAgg34 Try.sizeOf34 rfl rfl) ?_
  refine JL_step rfl rfl rfl (jo_callv rfl rfl Try.call19 rfl (CheckMachine_j m a)) fun _ => ?_
  refine JL_pd rfl (det_assign rfl) ?_
  refine JL_nil ?_
  refine JE_seq ?_
  refine JC_seq ?_
  refine JC_region ?_
  refine JL_pd rfl (det_move rfl) ?_
  refine JL_pd rfl (det_neq rfl rfl) ?_
  refine JL_nil ?_
  refine JE_seq ?_
  -- stop: cond
  refine JC_ifn rfl (fun h1 => ?_) (fun h1 => ?_)
  · exact absurd he h1
  · refine JC_skip ?_
    refine JE_seq ?_
    refine JC_seq ?_
    refine JC_seq ?_
    refine JC_region ?_
    refine JL_dt rfl (det_loadKA rfl Try.isAgg34 Try.sizeOf34 rfl rfl) ?_
    refine JL_pd rfl (det_fieldAddr rfl fo_77_0) ?_
    refine JL_dt rfl (det_loadK rfl Try.isAgg3 rfl) ?_
    refine JL_step rfl rfl rfl (jo_callv rfl rfl Try.call55 rfl (state_j m a _ ⟨V.s1, V.s2⟩)) fun _ => ?_
    refine JL_pd rfl (det_not rfl) ?_
    refine JL_pd rfl (det_move rfl) ?_
    -- stop: guard 5
    refine JL_join1 5 24 (.bool (!inSpot m tg)) (fun hj => ?_) ?_
    · refine JL_split (d0 := 19) rfl (fun q2 => ?_) (fun q2 => ?_)
      · refine JL_skip rfl rfl q2 rfl ?_
        refine JL_skip rfl rfl q2 rfl ?_
        refine JL_skip rfl rfl q2 rfl ?_
        refine JL_skip rfl rfl q2 rfl ?_
        refine JL_pd rfl (det_pick_t rfl q2 rfl) ?_
        exact hj (by kernel_rfl) (stsub_consB rfl (by clear hj; first | rfl | (simp only [inSpot, q2, Bool.and_true, Bool.true_and, Bool.false_and, Bool.and_false, Bool.or_true, Bool.true_or, Bool.or_false, Bool.false_or, Bool.not_true, Bool.not_false]; done) | (simp [inSpot, q2]; done) | (simp [inSpot] at q2; done) | (simp [inSpot, q2] <;> omega) | (exfalso; simp [inSpot] at q2; omega)) stsub_nil)
      · refine JL_guard rfl rfl q2 ?_
        refine JL_pd rfl (det_fieldAddr rfl fo_77_1) ?_
        refine JL_guard rfl rfl q2 ?_
        refine JL_dt rfl (det_loadK rfl Try.isAgg3 rfl) ?_
        refine JL_guard rfl rfl q2 ?_
        refine JL_step rfl rfl rfl (jo_callv rfl rfl Try.call51 rfl (within_j _ _ _)) fun _ => ?_
        refine JL_guard rfl rfl q2 ?_
        refine JL_pd rfl (det_not rfl) ?_
        refine JL_pd rfl (det_pick_f rfl q2 rfl) ?_
        exact hj (by kernel_rfl) (stsub_consB rfl (by clear hj; first | rfl | (simp only [inSpot, q2, Bool.and_true, Bool.true_and, Bool.false_and, Bool.and_false, Bool.or_true, Bool.true_or, Bool.or_false, Bool.false_or, Bool.not_true, Bool.not_false]; done) | (simp [inSpot, q2]; done) | (simp [inSpot] at q2; done) | (simp [inSpot, q2] <;> omega) | (exfalso; simp [inSpot] at q2; omega)) stsub_nil)
    refine JL_nil ?_
    refine JE_seq ?_
    -- stop: cond
    refine JC_cond rfl (fun h2 => ?_) (fun h2 => ?_)
    · rw [hr] at h2; cases h2
    · refine JC_skip ?_
      refine JE_seq ?_
      refine JC_seq ?_
      refine JC_region ?_
      refine JL_keep b3 noFp ?_
      refine JL_dt rfl (det_loadKA rfl Try.isAgg34 Try.sizeOf34 rfl rfl) ?_
      -- stop: op  1 t27 := (call (Call (value f59) (t26) (34)))   <0>   259
      refine JL_step rfl rfl rfl (jo_call rfl rfl Try.call59 rfl (hall_j m a (by omega))) fun ⟨hb, mb⟩ => ?_
      refine JL_pd rfl (det_makeFuncE rfl rfl) ?_
      -- stop: op  3 t29 := (call (Call (value f64) (t27 t28) (104 109)))   <1 2 1>   259
      refine JL_step rfl rfl rfl (jo_callv rfl rfl Try.call64 rfl (hgo b3 hb mb)) fun _ => ?_
      refine JL_pd rfl (det_move rfl) ?_
      refine JL_pd rfl (det_extract rfl rfl) ?_
      refine JL_pd rfl (det_extract rfl rfl) ?_
      refine JL_pd rfl (det_assign rfl) ?_
      refine JL_pd rfl (det_assign rfl) ?_
      refine JL_nil ?_
      refine JE_seq ?_
      refine JC_seq ?_
      refine JC_seq ?_
      refine JC_region ?_
      refine JL_pd rfl (det_move rfl) ?_
      refine JL_pd rfl (det_not rfl) ?_
      refine JL_nil ?_
      refine JE_seq ?_
      -- stop: cond
      refine JC_cond rfl (fun h3 => ?_) (fun h3 => ?_)
      · refine JC_seq ?_
        refine JC_region ?_
        refine JL_pd rfl (det_assign rfl) ?_
        refine JL_pd rfl (det_assign rfl) ?_
        refine JL_nil ?_
        refine JE_seq ?_
        refine JC_ret ?_
        refine JE_seq_ret ?_
        -- stop: out
        refine JE_out (.inl rfl) () (results2 Try.results44 (res_tmp rfl) (res_tmp rfl)) rfl (List.Perm.refl _) (fun _ _ => trivial)
      · cases h3
theorem Way_js (m : Mc) (a : MA) (tg : Sd) (he : fault m = 0) (hr : inSpot m tg = true) (full : List Int) (hw : wayO m m.locks (goalS tg) = some full) : Cr Try.prog 44 [.agg #[I m.states, .slice a.sa m.steps.length a.sc, .slice a.ra m.running.length a.rc, .slice a.ka m.locks.length a.kc], .agg #[I tg.st, I tg.sp]] (KMc m a) (fun q : Option Addr × Nat => .tuple #[.slice q.1 full.length q.2, I 0]) (fun q => KSl q.1 full.length q.2 encI full) := by
  have V := valid_of he
  have hl := V.nl
  have hgo := fun b3 hb mb => way_js m a hb mb V (goalS tg) 75 [] [pt b3] (KBox b3 [I tg.st, I tg.sp]) Try.call75 (fun x => Way1_j tg b3 x) full hw
  refine Cx_of Try.func44 rfl Try.ntmps44 rfl fun w0 M0 => ?_
  refine JC_seq ?_
  refine JC_region ?_
  refine JL_step rfl rfl rfl (jo_box rfl rfl) fun b2 => ?_
  refine JL_step rfl rfl rfl (jo_box rfl rfl) fun b3 => ?_
  refine JL_pd rfl (det_assign rfl) ?_
  refine JL_pd rfl (det_assign rfl) ?_
  refine JL_nil ?_
  refine JE_seq ?_
  refine JC_seq ?_
  refine JC_seq ?_
  refine JC_region ?_
  refine JL_dt rfl (det_loadKA rfl Try.isAgg34 Try.sizeOf34 rfl rfl) ?_
  refine JL_step rfl rfl rfl (jo_callv rfl rfl Try.call19 rfl (CheckMachine_j m a)) fun _ => ?_
  refine JL_pd rfl (det_assign rfl) ?_
  refine JL_nil ?_
  refine JE_seq ?_
  refine JC_seq ?_
  refine JC_region ?_
  refine JL_pd rfl (det_move rfl) ?_
  refine JL_pd rfl (det_neq rfl rfl) ?_
  refine JL_nil ?_
  refine JE_seq ?_
  -- stop: cond
  refine JC_ifn rfl (fun h1 => ?_) (fun h1 => ?_)
  · exact absurd he h1
  · refine JC_skip ?_
    refine JE_seq ?_
    refine JC_seq ?_
    refine JC_seq ?_
    refine JC_region ?_
    refine JL_dt rfl (det_loadKA rfl Try.isAgg34 Try.sizeOf34 rfl rfl) ?_
    refine JL_pd rfl (det_fieldAddr rfl fo_77_0) ?_
    refine JL_dt rfl (det_loadK rfl Try.isAgg3 rfl) ?_
    refine JL_step rfl rfl rfl (jo_callv rfl rfl Try.call55 rfl (state_j m a _ ⟨V.s1, V.s2⟩)) fun _ => ?_
    refine JL_pd rfl (det_not rfl) ?_
    refine JL_pd rfl (det_move rfl) ?_
    -- stop: guard 5
    refine JL_join1 5 24 (.bool (!inSpot m tg)) (fun hj => ?_) ?_
    · refine JL_split (d0 := 19) rfl (fun q3 => ?_) (fun q3 => ?_)
      · refine JL_skip rfl rfl q3 rfl ?_
        refine JL_skip rfl rfl q3 rfl ?_
        refine JL_skip rfl rfl q3 rfl ?_
        refine JL_skip rfl rfl q3 rfl ?_
        refine JL_pd rfl (det_pick_t rfl q3 rfl) ?_
        exact hj (by kernel_rfl) (stsub_consB rfl (by clear hj; first | rfl | (simp only [inSpot, q3, Bool.and_true, Bool.true_and, Bool.false_and, Bool.and_false, Bool.or_true, Bool.true_or, Bool.or_false, Bool.false_or, Bool.not_true, Bool.not_false]; done) | (simp [inSpot, q3]; done) | (simp [inSpot] at q3; done) | (simp [inSpot, q3] <;> omega) | (exfalso; simp [inSpot] at q3; omega)) stsub_nil)
      · refine JL_guard rfl rfl q3 ?_
        refine JL_pd rfl (det_fieldAddr rfl fo_77_1) ?_
        refine JL_guard rfl rfl q3 ?_
        refine JL_dt rfl (det_loadK rfl Try.isAgg3 rfl) ?_
        refine JL_guard rfl rfl q3 ?_
        refine JL_step rfl rfl rfl (jo_callv rfl rfl Try.call51 rfl (within_j _ _ _)) fun _ => ?_
        refine JL_guard rfl rfl q3 ?_
        refine JL_pd rfl (det_not rfl) ?_
        refine JL_pd rfl (det_pick_f rfl q3 rfl) ?_
        exact hj (by kernel_rfl) (stsub_consB rfl (by clear hj; first | rfl | (simp only [inSpot, q3, Bool.and_true, Bool.true_and, Bool.false_and, Bool.and_false, Bool.or_true, Bool.true_or, Bool.or_false, Bool.false_or, Bool.not_true, Bool.not_false]; done) | (simp [inSpot, q3]; done) | (simp [inSpot] at q3; done) | (simp [inSpot, q3] <;> omega) | (exfalso; simp [inSpot] at q3; omega)) stsub_nil)
    refine JL_nil ?_
    refine JE_seq ?_
    -- stop: cond
    refine JC_cond rfl (fun h2 => ?_) (fun h2 => ?_)
    · rw [hr] at h2; cases h2
    · refine JC_skip ?_
      refine JE_seq ?_
      refine JC_seq ?_
      refine JC_region ?_
      refine JL_keep b3 noFp ?_
      refine JL_dt rfl (det_loadKA rfl Try.isAgg34 Try.sizeOf34 rfl rfl) ?_
      -- stop: op  1 t27 := (call (Call (value f59) (t26) (34)))   <0>   259
      refine JL_step rfl rfl rfl (jo_call rfl rfl Try.call59 rfl (hall_j m a (by omega))) fun ⟨hb, mb⟩ => ?_
      refine JL_pd rfl (det_makeFuncE rfl rfl) ?_
      -- stop: op  3 t29 := (call (Call (value f64) (t27 t28) (104 109)))   <1 2 1>   259
      refine JL_step rfl rfl rfl (jo_call rfl rfl Try.call64 rfl (hgo b3 hb mb)) fun ⟨wa, wc⟩ => ?_
      refine JL_pd rfl (det_move rfl) ?_
      refine JL_pd rfl (det_extract rfl rfl) ?_
      refine JL_pd rfl (det_extract rfl rfl) ?_
      refine JL_pd rfl (det_assign rfl) ?_
      refine JL_pd rfl (det_assign rfl) ?_
      refine JL_nil ?_
      refine JE_seq ?_
      refine JC_seq ?_
      refine JC_seq ?_
      refine JC_region ?_
      refine JL_pd rfl (det_move rfl) ?_
      refine JL_pd rfl (det_not rfl) ?_
      refine JL_nil ?_
      refine JE_seq ?_
      -- stop: cond
      refine JC_cond rfl (fun h3 => ?_) (fun h3 => ?_)
      · cases h3
      · refine JC_skip ?_
        refine JE_seq ?_
        refine JC_seq ?_
        refine JC_region ?_
        refine JL_pd rfl (det_move rfl) ?_
        refine JL_pd rfl (det_assign rfl) ?_
        refine JL_pd rfl (det_assign rfl) ?_
        refine JL_nil ?_
        refine JE_seq ?_
        refine JC_ret ?_
        -- stop: out
        refine JE_out (.inl rfl) (wa, wc) (results2 Try.results44 (res_tmp rfl) (res_tmp rfl)) rfl (List.Perm.refl _) (fun w h => h.1)
theorem Danger_je (m : Mc) (a : MA) (he : fault m ≠ 0) : Cv Try.prog 26 [.agg #[I m.states, .slice a.sa m.steps.length a.sc, .slice a.ra m.running.length a.rc, .slice a.ka m.locks.length a.kc]] (KMc m a) (.tuple #[.slice none 0 0, I (fault m)]) := by
  refine Cx_of Try.func26 rfl Try.ntmps26 rfl fun w0 M0 => ?_
  refine JC_seq ?_
  refine JC_region ?_
  refine JL_step rfl rfl rfl (jo_box rfl rfl) fun b1 => ?_
  refine JL_pd rfl (det_assign rfl) ?_
  refine JL_pd rfl (det_assign rfl) ?_
  refine JL_nil ?_
  refine JE_seq ?_
  refine JC_seq ?_
  refine JC_seq ?_
  refine JC_region ?_
  refine JL_dt rfl (det_loadKA rfl Try.isAgg34 Try.sizeOf34 rfl rfl) ?_
  refine JL_step rfl rfl rfl (jo_callv rfl rfl Try.call19 rfl (CheckMachine_j m a)) fun _ => ?_
  refine JL_pd rfl (det_assign rfl) ?_
  refine JL_nil ?_
  refine JE_seq ?_
  refine JC_seq ?_
  refine JC_region ?_
  refine JL_pd rfl (det_move rfl) ?_
  refine JL_pd rfl (det_neq rfl rfl) ?_
  refine JL_nil ?_
  refine JE_seq ?_
  -- stop: cond
  refine JC_ifn rfl (fun h1 => ?_) (fun h1 => ?_)
  · refine JC_seq ?_
    refine JC_region ?_
    refine JL_pd rfl (det_move rfl) ?_
    refine JL_pd rfl (det_assign rfl) ?_
    refine JL_pd rfl (det_assign rfl) ?_
    refine JL_nil ?_
    refine JE_seq ?_
    refine JC_ret ?_
    refine JE_seq_ret ?_
    -- stop: out
    refine JE_out (.inl rfl) () (results2 Try.results26 (res_tmp rfl) (res_tmp rfl)) rfl (List.Perm.refl _) (fun _ _ => trivial)
  · exact absurd h1 he
theorem Danger_jn (m : Mc) (a : MA) (he : fault m = 0) (hw : wayO m m.locks (dangerB m) = none) : Cv Try.prog 26 [.agg #[I m.states, .slice a.sa m.steps.length a.sc, .slice a.ra m.running.length a.rc, .slice a.ka m.locks.length a.kc]] (KMc m a) (.tuple #[.slice none 0 0, I 7]) := by
  have V := valid_of he
  have hl := V.nl
  have hn := V.nr
  refine Cx_of Try.func26 rfl Try.ntmps26 rfl fun w0 M0 => ?_
  refine JC_seq ?_
  refine JC_region ?_
  refine JL_step rfl rfl rfl (jo_box rfl rfl) fun b1 => ?_
  refine JL_pd rfl (det_assign rfl) ?_
  refine JL_pd rfl (det_assign rfl) ?_
  refine JL_nil ?_
  refine JE_seq ?_
  refine JC_seq ?_
  refine JC_seq ?_
  refine JC_region ?_
  refine JL_dt rfl (det_loadKA rfl Try.isAgg34 Try.sizeOf34 rfl rfl) ?_
  refine JL_step rfl rfl rfl (jo_callv rfl rfl Try.call19 rfl (CheckMachine_j m a)) fun _ => ?_
  refine JL_pd rfl (det_assign rfl) ?_
  refine JL_nil ?_
  refine JE_seq ?_
  refine JC_seq ?_
  refine JC_region ?_
  refine JL_pd rfl (det_move rfl) ?_
  refine JL_pd rfl (det_neq rfl rfl) ?_
  refine JL_nil ?_
  refine JE_seq ?_
  -- stop: cond
  refine JC_ifn rfl (fun h1 => ?_) (fun h1 => ?_)
  · exact absurd he h1
  · refine JC_skip ?_
    refine JE_seq ?_
    refine JC_seq ?_
    refine JC_region ?_
    refine JL_dt rfl (det_loadKA rfl Try.isAgg34 Try.sizeOf34 rfl rfl) ?_
    refine JL_pd rfl (det_makeFuncE rfl rfl) ?_
    refine JL_pd rfl (det_assign rfl) ?_
    refine JL_nil ?_
    refine JE_seq ?_
    refine JC_seq ?_
    refine JC_region ?_
    refine JL_dt rfl (det_loadKA rfl Try.isAgg34 Try.sizeOf34 rfl rfl) ?_
    -- stop: op  1 t17 := (call (Call (value f59) (t16) (34)))   <0>   272
    refine JL_step rfl rfl rfl (jo_call rfl rfl Try.call59 rfl (hall_j m a (by omega))) fun ⟨hb, mb⟩ => ?_
    refine JL_pd rfl (det_move rfl) ?_
    -- stop: op  3 t19 := (call (Call (value f64) (t17 t18) (104 109)))   <1 2 1>   272
    refine JL_step rfl rfl rfl (jo_callv rfl rfl Try.call64 rfl (way_jn m a hb mb V (dangerB m) 63 [.agg #[I m.states, .slice a.sa m.steps.length a.sc, .slice a.ra m.running.length a.rc, .slice a.ka m.locks.length a.kc]] [] (KMc m a) Try.call63 (fun x => danger_j m a x (by omega)) hw)) fun _ => ?_
    refine JL_pd rfl (det_move rfl) ?_
    refine JL_pd rfl (det_extract rfl rfl) ?_
    refine JL_pd rfl (det_extract rfl rfl) ?_
    refine JL_pd rfl (det_assign rfl) ?_
    refine JL_pd rfl (det_assign rfl) ?_
    refine JL_nil ?_
    refine JE_seq ?_
    refine JC_seq ?_
    refine JC_seq ?_
    refine JC_region ?_
    refine JL_pd rfl (det_move rfl) ?_
    refine JL_pd rfl (det_not rfl) ?_
    refine JL_nil ?_
    refine JE_seq ?_
    -- stop: cond
    refine JC_cond rfl (fun h3 => ?_) (fun h3 => ?_)
    · refine JC_seq ?_
      refine JC_region ?_
      refine JL_pd rfl (det_assign rfl) ?_
      refine JL_pd rfl (det_assign rfl) ?_
      refine JL_nil ?_
      refine JE_seq ?_
      refine JC_ret ?_
      refine JE_seq_ret ?_
      -- stop: out
      refine JE_out (.inl rfl) () (results2 Try.results26 (res_tmp rfl) (res_tmp rfl)) rfl (List.Perm.refl _) (fun _ _ => trivial)
    · cases h3
theorem Danger_js (m : Mc) (a : MA) (he : fault m = 0) (full : List Int) (hw : wayO m m.locks (dangerB m) = some full) : Cr Try.prog 26 [.agg #[I m.states, .slice a.sa m.steps.length a.sc, .slice a.ra m.running.length a.rc, .slice a.ka m.locks.length a.kc]] (KMc m a) (fun q : Option Addr × Nat => .tuple #[.slice q.1 full.length q.2, I 0]) (fun q => KSl q.1 full.length q.2 encI full) := by
  have V := valid_of he
  have hl := V.nl
  have hn := V.nr
  refine Cx_of Try.func26 rfl Try.ntmps26 rfl fun w0 M0 => ?_
  refine JC_seq ?_
  refine JC_region ?_
  refine JL_step rfl rfl rfl (jo_box rfl rfl) fun b1 => ?_
  refine JL_pd rfl (det_assign rfl) ?_
  refine JL_pd rfl (det_assign rfl) ?_
  refine JL_nil ?_
  refine JE_seq ?_
  refine JC_seq ?_
  refine JC_seq ?_
  refine JC_region ?_
  refine JL_dt rfl (det_loadKA rfl Try.isAgg34 Try.sizeOf34 rfl rfl) ?_
  refine JL_step rfl rfl rfl (jo_callv rfl rfl Try.call19 rfl (CheckMachine_j m a)) fun _ => ?_
  refine JL_pd rfl (det_assign rfl) ?_
  refine JL_nil ?_
  refine JE_seq ?_
  refine JC_seq ?_
  refine JC_region ?_
  refine JL_pd rfl (det_move rfl) ?_
  refine JL_pd rfl (det_neq rfl rfl) ?_
  refine JL_nil ?_
  refine JE_seq ?_
  -- stop: cond
  refine JC_ifn rfl (fun h1 => ?_) (fun h1 => ?_)
  · exact absurd he h1
  · refine JC_skip ?_
    refine JE_seq ?_
    refine JC_seq ?_
    refine JC_region ?_
    refine JL_dt rfl (det_loadKA rfl Try.isAgg34 Try.sizeOf34 rfl rfl) ?_
    refine JL_pd rfl (det_makeFuncE rfl rfl) ?_
    refine JL_pd rfl (det_assign rfl) ?_
    refine JL_nil ?_
    refine JE_seq ?_
    refine JC_seq ?_
    refine JC_region ?_
    refine JL_dt rfl (det_loadKA rfl Try.isAgg34 Try.sizeOf34 rfl rfl) ?_
    -- stop: op  1 t17 := (call (Call (value f59) (t16) (34)))   <0>   272
    refine JL_step rfl rfl rfl (jo_call rfl rfl Try.call59 rfl (hall_j m a (by omega))) fun ⟨hb, mb⟩ => ?_
    refine JL_pd rfl (det_move rfl) ?_
    -- stop: op  3 t19 := (call (Call (value f64) (t17 t18) (104 109)))   <1 2 1>   272
    refine JL_step rfl rfl rfl (jo_call rfl rfl Try.call64 rfl (way_js m a hb mb V (dangerB m) 63 [.agg #[I m.states, .slice a.sa m.steps.length a.sc, .slice a.ra m.running.length a.rc, .slice a.ka m.locks.length a.kc]] [] (KMc m a) Try.call63 (fun x => danger_j m a x (by omega)) full hw)) fun ⟨wa, wc⟩ => ?_
    refine JL_pd rfl (det_move rfl) ?_
    refine JL_pd rfl (det_extract rfl rfl) ?_
    refine JL_pd rfl (det_extract rfl rfl) ?_
    refine JL_pd rfl (det_assign rfl) ?_
    refine JL_pd rfl (det_assign rfl) ?_
    refine JL_nil ?_
    refine JE_seq ?_
    refine JC_seq ?_
    refine JC_seq ?_
    refine JC_region ?_
    refine JL_pd rfl (det_move rfl) ?_
    refine JL_pd rfl (det_not rfl) ?_
    refine JL_nil ?_
    refine JE_seq ?_
    -- stop: cond
    refine JC_cond rfl (fun h3 => ?_) (fun h3 => ?_)
    · cases h3
    · refine JC_skip ?_
      refine JE_seq ?_
      refine JC_seq ?_
      refine JC_region ?_
      refine JL_pd rfl (det_move rfl) ?_
      refine JL_pd rfl (det_assign rfl) ?_
      refine JL_pd rfl (det_assign rfl) ?_
      refine JL_nil ?_
      refine JE_seq ?_
      refine JC_ret ?_
      -- stop: out
      refine JE_out (.inl rfl) (wa, wc) (results2 Try.results26 (res_tmp rfl) (res_tmp rfl)) rfl (List.Perm.refl _) (fun w h => h.1)
end Go.Proofs.Ytgbfjcgjcnndpaa

/- Walks of cycle: ProveRun. -/
namespace Go.Proofs.Ytgbfjcgjcnndpaa
open Go.RowKit Go.Shelf

/-- The stands behind some signals. -/
def runW (m : Mc) (sg : List Int) : Nat → Bool := sg.foldl (fun w g => behW m m.locks w g) begW
def inW (w : Nat → Bool) (s : Sd) : Bool := (List.range 24).any fun j => w j && decide (s = sdOf j)
theorem inW_iff {w : Nat → Bool} {s : Sd} : inW w s = true ↔ ∃ j, j < 24 ∧ w j = true ∧ s = sdOf j := by
  simp only [inW, List.any_eq_true, List.mem_range, Bool.and_eq_true, decide_eq_true_eq]
theorem runW_snoc (m : Mc) (sg : List Int) {i : Nat} (h : i < sg.length) : runW m (sg.take (i + 1)) = behW m m.locks (runW m (sg.take i)) sg[i] := by
  unfold runW
  rw [take_snoc h, List.foldl_append]
  rfl
theorem runW_in {m : Mc} (V : Valid m) (sg : List Int) : WIn m (runW m sg) := by
  have key : ∀ (sg : List Int) (w : Nat → Bool), WIn m w → WIn m (sg.foldl (fun w g => behW m m.locks w g) w) := by
    intro sg
    induction sg with
    | nil => intro w h; exact h
    | cons g sg ih => intro w h; exact ih _ (behW_in V h)
  exact key sg _ (begW_in V)
theorem behW_mem {m : Mc} (V : Valid m) {w : Nat → Bool} (h : WIn m w) {g : Int} {ns : List Sd} (hm : ∀ s, s ∈ ns ↔ inW w s = true) (t : Sd) : (∃ s ∈ ns, t ∈ nextL m m.locks s g ∧ True) ↔ inW (behW m m.locks w g) t = true := by
  rw [inW_iff]
  constructor
  · rintro ⟨s, hs, h1, _⟩
    obtain ⟨j, hj, h2, rfl⟩ := inW_iff.1 ((hm s).1 hs)
    have hin := (next_in V (h j hj h2) h1).ix V
    exact ⟨ix t, hin.1, behW_iff.2 ⟨j, hj, h2, by rw [hin.2]; exact h1⟩, hin.2.symm⟩
  · rintro ⟨i, hi, h1, rfl⟩
    obtain ⟨j, hj, h2, h3⟩ := behW_iff.1 h1
    exact ⟨sdOf j, (hm _).2 (inW_iff.2 ⟨j, hj, h2, rfl⟩), h3, trivial⟩
theorem ProveRun_je (m : Mc) (a : MA) (tg : Sd) (sa : Option Addr) (sc : Nat) (sg : List Int) (he : fault m ≠ 0) : Cv Try.prog 46 [.agg #[I m.states, .slice a.sa m.steps.length a.sc, .slice a.ra m.running.length a.rc, .slice a.ka m.locks.length a.kc], .slice sa sg.length sc, .agg #[I tg.st, I tg.sp]] (KAnd (KMc m a) (KSl sa sg.length sc encI sg)) (.bool false) := by
  refine Cx_of Try.func46 rfl Try.ntmps46 rfl fun w0 M0 => ?_
  refine JC_seq ?_
  refine JC_region ?_
  refine JL_step rfl rfl rfl (jo_box rfl rfl) fun b3 => ?_
  refine JL_step rfl rfl rfl (jo_box rfl rfl) fun b5 => ?_
  refine JL_pd rfl (det_assign rfl) ?_
  refine JL_nil ?_
  refine JE_seq ?_
  refine JC_seq ?_
  refine JC_seq ?_
  refine JC_region ?_
  refine JL_dt rfl (det_loadKA rfl Try.isAgg34 Try.sizeOf34 rfl rfl) ?_
  refine JL_step rfl rfl rfl (jo_callv rfl rfl Try.call19 rfl (CheckMachine_j m a)) fun _ => ?_
  refine JL_pd rfl (det_neq rfl rfl) ?_
  refine JL_nil ?_
  refine JE_seq ?_
  -- stop: cond
  refine JC_ifn rfl (fun h1 => ?_) (fun h1 => ?_)
  · refine JC_seq ?_
    refine JC_region ?_
    refine JL_pd rfl (det_assign rfl) ?_
    refine JL_nil ?_
    refine JE_seq ?_
    refine JC_ret ?_
    refine JE_seq_ret ?_
    -- stop: out
    refine JE_out (.inl rfl) () (results1 Try.results46 (res_tmp rfl)) rfl (List.Perm.refl _) (fun _ _ => trivial)
  · exact absurd h1 he
set_option maxRecDepth 100000 in
set_option maxHeartbeats 1000000 in
theorem ProveRun_jo (m : Mc) (a : MA) (tg : Sd) (sa : Option Addr) (sc : Nat) (sg : List Int) (he : fault m = 0) : Cv Try.prog 46 [.agg #[I m.states, .slice a.sa m.steps.length a.sc, .slice a.ra m.running.length a.rc, .slice a.ka m.locks.length a.kc], .slice sa sg.length sc, .agg #[I tg.st, I tg.sp]] (KAnd (KMc m a) (KSl sa sg.length sc encI sg)) (.bool (inW (runW m sg) tg)) := by
  have V := valid_of he
  have hl := V.nl
  have hsl := V.ns
  refine Cx_of Try.func46 rfl Try.ntmps46 rfl fun w0 M0 => ?_
  refine JC_seq ?_
  refine JC_region ?_
  refine JL_step rfl rfl rfl (jo_box rfl rfl) fun b3 => ?_
  refine JL_step rfl rfl rfl (jo_box rfl rfl) fun b5 => ?_
  refine JL_pd rfl (det_assign rfl) ?_
  refine JL_nil ?_
  refine JE_seq ?_
  refine JC_seq ?_
  refine JC_seq ?_
  refine JC_region ?_
  refine JL_dt rfl (det_loadKA rfl Try.isAgg34 Try.sizeOf34 rfl rfl) ?_
  refine JL_step rfl rfl rfl (jo_callv rfl rfl Try.call19 rfl (CheckMachine_j m a)) fun _ => ?_
  refine JL_pd rfl (det_neq rfl rfl) ?_
  refine JL_nil ?_
  refine JE_seq ?_
  -- stop: cond
  refine JC_ifn rfl (fun h1 => ?_) (fun h1 => ?_)
  · exact absurd he h1
  · refine JC_skip ?_
    refine JE_seq ?_
    refine JC_seq ?_
    refine JC_region ?_
    refine JL_dt rfl (det_loadKA rfl Try.isAgg34 Try.sizeOf34 rfl rfl) ?_
    -- stop: op  1 t19 := (call (Call (value f59) (t18) (34)))   <0>   96
    refine JL_step rfl rfl rfl (jo_call rfl rfl Try.call59 rfl (hall_j m a (by omega))) fun ⟨b, mb⟩ => ?_
    refine JL_pd rfl (det_assign rfl) ?_
    refine JL_nil ?_
    refine JE_seq ?_
    refine JC_seq ?_
    refine JC_region ?_
    refine JL_pd rfl (det_build rfl (bld_77)) ?_
    refine JL_step rfl rfl rfl (jo_buildSlice rfl (bsl_36_1_0 _ _)) fun b21 => ?_
    refine JL_pd rfl (det_assign rfl) ?_
    refine JL_nil ?_
    refine JE_seq ?_
    refine JC_seq ?_
    refine JC_seq ?_
    refine JC_region ?_
    refine JL_pd rfl (det_move rfl) ?_
    refine JL_pd rfl (det_len rfl Try.runUnderlying23) ?_
    refine JL_pd rfl (det_move rfl) ?_
    refine JL_nil ?_
    refine JE_seq ?_
    refine JC_block ?_
    -- stop: loop
    refine JC_lit (enc := encSd) b21 1 [⟨0, 0⟩] noFp rfl rfl (by decide) ?_
    refine JC_pure (p := sg.length ≤ 9223372036854775807) (by intro w h; exact (Knows.know (F := KSl sa sg.length sc encI sg) w h).1.bd) fun hsz => ?_
    refine JC_loopK (γ := Nat × Option Addr × Nat × List Sd) (fun q => q.1 ≤ sg.length ∧ ∀ s, s ∈ q.2.2.2 ↔ inW (runW m (sg.take q.1)) s = true) (fun q => [(24, I q.1), (8, .slice q.2.1 q.2.2.2.length q.2.2.1)]) (fun _ => []) (fun q => KSl q.2.1 q.2.2.2.length q.2.2.1 encSd q.2.2.2) (fun q => sg.length - q.1) (0, some ⟨b21, 0, none⟩, 1, [⟨0, 0⟩])
      ⟨Nat.zero_le _, fun s => ?_⟩ (stsub_consI rfl rfl (stsub_cons rfl stsub_nil)) ht_nil (fun w h => Knows.know w h) ?_
    · rw [List.mem_singleton, List.take_zero, inW_iff]
      refine ⟨fun e => ⟨0, by omega, rfl, e⟩, fun ⟨j, _, h2, h3⟩ => ?_⟩
      have : j = 0 := of_decide_eq_true h2
      subst this
      exact h3
    rintro ⟨i, na, nc, ns⟩ ⟨hi, hmem⟩ K hK
    dsimp only [List.cons_append, List.nil_append] at hi hmem ⊢
    refine JC_pure (p := ns.length ≤ 9223372036854775807) (by intro w h; exact h.1.1.bd) fun hns => ?_
    refine JC_seq ?_
    refine JC_region ?_
    refine JL_pd rfl (det_lss rfl rfl) ?_
    refine JL_nil ?_
    refine JE_seq ?_
    refine JC_seq ?_
    -- stop: cond
    refine JC_if rfl (fun h2 => ?_) (fun h2 => ?_)
    · have hi2 : i < sg.length := by omega
      have hwin := runW_in V (sg.take i)
      have hrun := runW_snoc m sg hi2
      refine JC_skip ?_
      refine JE_seq ?_
      refine JC_seq ?_
      refine JC_block ?_
      refine JC_seq ?_
      refine JC_region ?_
      refine JL_dt rfl (det_indexAddr rfl rfl (by first | rfl | omega) (by first | assumption | omega | decide) Try.runUnderlying23 Try.sizeOf3) ?_
      refine JL_dt rfl (det_loadE rfl (by first | assumption | omega | decide) Try.isAgg3 rfl rfl) ?_
      refine JL_pd rfl (det_assign rfl) ?_
      refine JL_nil ?_
      refine JE_seq ?_
      refine JC_seq ?_
      refine JC_region ?_
      refine JL_step rfl rfl rfl (jo_alloc0 Try.zeroValue36 rfl) fun b11 => ?_
      refine JL_nil ?_
      refine JE_seq ?_
      refine JC_seq ?_
      refine JC_seq ?_
      refine JC_region ?_
      refine JL_pd rfl (det_move rfl) ?_
      refine JL_pd rfl (det_len rfl Try.runUnderlying36) ?_
      refine JL_pd rfl (det_move rfl) ?_
      refine JL_nil ?_
      refine JE_seq ?_
      refine JC_block ?_
      -- stop: loop
      refine JC_nil 77 2 ?_
      refine JC_loopF (γ := Nat × Value × List Sd) (fun q => q.1 ≤ ns.length ∧ NxI m sg[i] (fun _ => True) ns q.1 [] q.2.2) (fun q => [(30, I q.1)]) (fun q => [bx b11 [q.2.1], ow q.2.1 77 2 q.2.2.length (q.2.2.flatMap encSd)]) (fun q => ns.length - q.1) (0, .slice none 0 0, []) ⟨Nat.zero_le _, NxI.zero m _ _ ns⟩ (stsub_consI rfl rfl stsub_nil) (show HTake _ [bx b11 [.slice none 0 0], ow (.slice none 0 0) 77 2 0 []] _ from ht_cons (ht_cons ht_nil)) ?_
      rintro ⟨j, v, xs⟩ ⟨hj, hx⟩ K3 hK3
      dsimp only [List.cons_append, List.nil_append] at hj hx ⊢
      refine JC_seq ?_
      refine JC_region ?_
      refine JL_pd rfl (det_lss rfl rfl) ?_
      refine JL_nil ?_
      refine JE_seq ?_
      refine JC_seq ?_
      -- stop: cond
      refine JC_if rfl (fun h4 => ?_) (fun h4 => ?_)
      · have hj2 : j < ns.length := by omega
        obtain ⟨j0, hj0, hj1, hjj⟩ := inW_iff.1 ((hmem ns[j]).1 (List.getElem_mem hj2))
        have hin : InM m ns[j] := by rw [hjj]; exact hwin j0 hj0 hj1
        have hnext := fun xs => NxI.next (m := m) (g := sg[i]) (q := fun _ => True) (xs := xs) hj2
        generalize hse : ns[j] = s at hin hnext
        refine JC_skip ?_
        refine JE_seq ?_
        refine JC_seq ?_
        refine JC_block ?_
        refine JC_seq ?_
        refine JC_region ?_
        refine JL_dt rfl (det_indexAddr rfl rfl (by first | rfl | omega) (by first | assumption | omega | decide) Try.runUnderlying36 Try.sizeOf77) ?_
        refine JL_dt rfl (det_loadEA (vs := [I s.st, I s.sp]) rfl (by first | assumption | omega | decide) Try.isAgg77 Try.sizeOf77 rfl (by rw [← hse]; rfl) rfl) ?_
        refine JL_step rfl rfl rfl (jo_alloc0 Try.zeroValue77 rfl) fun b13 => ?_
        refine JL_step0 rfl rfl (jo_store rfl rfl rfl (by first | (simp only [splice_norm]; done) | (simp only [splice_norm]; rfl) | rfl) Try.sizeOf77 rfl rfl) fun _ => ?_
        refine JL_nil ?_
        refine JE_seq ?_
        refine JC_seq ?_
        refine JC_region ?_
        refine JL_pd rfl (det_move rfl) ?_
        refine JL_dt rfl (det_loadKA rfl Try.isAgg77 Try.sizeOf77 rfl rfl) ?_
        refine JL_pd rfl (det_move rfl) ?_
        refine JL_step rfl rfl rfl (jo_call rfl rfl Try.call74 rfl (next_j b s _)) fun x37 => ?_
        refine JL_nil ?_
        refine JE_seq ?_
        refine JC_block ?_
        -- stop: rangeFunc
        have hit := next_it m a s sg[i] b mb x37.1 x37.2.1 x37.2.2 (by omega) (by obtain ⟨_, _, q1, q2⟩ := hin; omega)
        refine JC_rangeI (γ := Value × List Sd) (β := Nat) rfl rfl rfl rfl Try.call93 hit (perm2 (bx b11 [v]) (ow v 77 2 xs.length (xs.flatMap encSd))) (fun w _ h => Knows.know w h) (fun _ => rfl) ?_
          (fun p q => NxI m sg[i] (fun _ => True) ns j p q.2) (fun _ _ _ => False) (fun q => [bx b11 [q.1], ow q.1 77 2 q.2.length (q.2.flatMap encSd)]) (v, xs) hx rfl
          (fun x t => [(14, pt t), (11, pt b11)]) (fun x t => [bx t [I x.st, I x.sp]]) ?_ ?_ ?_ ?_
        · show ∀ p ∈ [38], p < 53
          decide
        · intro l' x W K0 hK0
          refine JC_region ?_
          refine JL_step rfl rfl rfl (jo_alloc0 Try.zeroValue77 rfl) fun b14 => ?_
          refine JL_step0 rfl rfl (jo_store rfl rfl rfl (by first | (simp only [splice_norm]; done) | (simp only [splice_norm]; rfl) | rfl) Try.sizeOf77 rfl rfl) fun _ => ?_
          refine JL_nil ?_
          -- stop: end
          exact JE_asg (hK0 b14) (stsub_cons rfl (stsub_cons rfl stsub_nil)) (hsub_cons hsub_nil) (fun _ h => trivial)
        · rintro l' p x ⟨v2, xs2⟩ t W K1 QX hx2 hpx hK1 _
          dsimp only at hx2
          dsimp only [List.cons_append, List.nil_append]
          have hxm : x ∈ nextL m m.locks s sg[i] := hpx.subset (by simp)
          have hxin := next_in V hin hxm
          have hlx := hx2.len V
          refine JC_block ?_
          refine JC_seq ?_
          refine JC_region ?_
          refine JL_dt rfl (det_loadK rfl Try.isAgg36 rfl) ?_
          refine JL_dt rfl (det_loadKA rfl Try.isAgg77 Try.sizeOf77 rfl rfl) ?_
          refine JL_step rfl rfl rfl (jo_callx rfl rfl Try.call77 rfl (containsSd_x x v2 xs2 (by omega)) (pick_perm)) fun x41 => ?_
          refine JL_pd rfl (det_not rfl) ?_
          refine JL_nil ?_
          refine JE_seq ?_
          -- stop: cond
          refine JC_cond rfl (fun h6 => ?_) (fun h6 => ?_)
          · have h6' : x ∉ xs2 := by simpa using h6
            have hx3 := hx2.add hxin trivial h6'
            refine JC_region ?_
            refine JL_dt rfl (det_loadK rfl Try.isAgg36 rfl) ?_
            refine JL_dt rfl (det_loadKA rfl Try.isAgg77 Try.sizeOf77 rfl rfl) ?_
            refine JL_step rfl rfl rfl (jo_buildSlice rfl (bsl_36_1_0 _ _)) fun b45 => ?_
            refine JL_step rfl rfl rfl (jo_append el_36 rfl rfl rfl rfl (by omega)) fun b46 => ?_
            refine JL_step0 rfl rfl (jo_store rfl rfl rfl (by first | (simp only [splice_norm]; done) | (simp only [splice_norm]; rfl) | rfl) Try.sizeOf36 rfl rfl) fun _ => ?_
            refine JL_nil ?_
            refine JE_block ?_
            -- stop: end
            refine JE_next (fun st' R' a' W' => hK1 (.slice (some ⟨b46.1, 0, none⟩) (xs2.length + 1) b46.2, xs2 ++ [x]) hx3 st' R' a' W') ⟨_, ht_cons (ht_ow (by simp) (by simp [encSd]) ht_nil)⟩
          · have h6' : x ∈ xs2 := by simpa using h6
            refine JC_skip ?_
            refine JE_block ?_
            -- stop: end
            refine JE_next (fun st' R' a' W' => hK1 (v2, xs2) (hx2.skip (.inr h6')) st' R' a' W') ⟨_, ht_cons (ht_cons ht_nil)⟩
        · rintro ⟨v2, xs2⟩ hx2
          refine JE_block ?_
          refine JE_block ?_
          refine JE_seq ?_
          refine JC_region ?_
          refine JL_pd rfl (det_add rfl rfl ⟨by omega, by omega⟩) ?_
          refine JL_pd rfl (det_move rfl) ?_
          refine JL_nil ?_
          -- stop: end
          refine JE_roundF hK3 (j + 1, v2, xs2) ⟨by simp only; omega, hnext _ hx2⟩ (by simp only; omega) (stsub_consI rfl (by simp only; omega) stsub_nil) (ht_cons (ht_cons ht_nil))
        · rintro cd p w3 _ h
          exact h.elim
      · obtain rfl : j = ns.length := by omega
        have hd := hx.done
        refine JC_slice (enc := encSd) (v := v) xs noFp rfl rfl ?_
        rintro av cv rfl
        refine JC_exit ?_
        refine JE_seq_exit ?_
        refine JE_then_exit ?_
        refine JE_block_here ?_
        refine JE_seq ?_
        refine JC_region ?_
        refine JL_dt rfl (det_loadK rfl Try.isAgg36 rfl) ?_
        refine JL_pd rfl (det_assign rfl) ?_
        refine JL_nil ?_
        refine JE_block ?_
        refine JE_seq ?_
        refine JC_region ?_
        refine JL_pd rfl (det_add rfl rfl ⟨by omega, by omega⟩) ?_
        refine JL_pd rfl (det_move rfl) ?_
        refine JL_nil ?_
        -- stop: end
        refine JE_roundF hK (i + 1, av, cv, xs) ⟨by simp only; omega, fun s => by simp only; rw [hrun, hd s]; exact behW_mem V hwin hmem s⟩ (by simp only; omega) (stsub_consI rfl (by simp only; omega) (stsub_cons rfl stsub_nil)) ht_nil
    · obtain rfl : i = sg.length := by omega
      rw [List.take_length] at hmem
      refine JC_exit ?_
      refine JE_seq_exit ?_
      refine JE_then_exit ?_
      refine JE_block_here ?_
      refine JE_seq ?_
      refine JC_seq ?_
      refine JC_region ?_
      refine JL_pd rfl (det_move rfl) ?_
      refine JL_dt rfl (det_loadKA rfl Try.isAgg77 Try.sizeOf77 rfl rfl) ?_
      -- stop: op  2 t52 := (call (Call (value f77) (t50 t51) (36 77)))   <0 1>   109
      refine JL_step rfl rfl rfl (jo_callv rfl rfl Try.call77 rfl (containsSd_j tg na nc ns hns)) fun _ => ?_
      refine JL_pd rfl (det_assign rfl) ?_
      refine JL_nil ?_
      refine JE_seq ?_
      refine JC_ret ?_
      -- stop: out
      refine JE_out (.inl rfl) () (results1 Try.results46 (res_tmp rfl)) (by congr 1; rw [Bool.eq_iff_iff, decide_eq_true_eq]; exact hmem tg) (List.Perm.refl _) (fun _ _ => trivial)
end Go.Proofs.Ytgbfjcgjcnndpaa

/- Plain words for cycle: the ends of a log. Nothing is asked. -/
namespace Go.Proofs.Ytgbfjcgjcnndpaa
open Go.RowKit Go.Shelf

/-- So many signals of a log gone through, and so many others. -/
structure Nt where
  lg : Int
  ls : Int
deriving DecidableEq
def ekN (x : Nt) : Value := .agg #[I x.lg, I x.ls]
theorem Nt.ext' {a b : Nt} : a = b ↔ a.lg = b.lg ∧ a.ls = b.ls := by cases a; cases b; simp
def evB (w : Nat → Bool) : Value := .agg (encW 24 w).toArray
inductive EndR (m : Mc) (log : List Int) : Nat → Nat → Sd → Prop
  | zero : EndR m log 0 0 ⟨0, 0⟩
  | log {i k : Nat} {s t : Sd} {g : Int} : EndR m log i k s → log[i]? = some g → t ∈ nextL m m.locks s g → EndR m log (i + 1) k t
  | lost {i k : Nat} {s t : Sd} : EndR m log i k s → Stp m m.locks s t → EndR m log i (k + 1) t
theorem EndR.inM {m : Mc} (V : Valid m) {log : List Int} {i k : Nat} {s : Sd} (h : EndR m log i k s) : InM m s := by
  induction h with
  | zero => exact zero_in V
  | log _ _ ht ih => exact next_in V ih ht
  | lost _ hst ih => obtain ⟨g, _, ht⟩ := hst; exact next_in V ih ht
/-! Worked out. -/
def endK (m : Mc) (prev : Nat → Nat → Bool) : Nat → Nat → Bool
  | 0 => prev 0
  | k + 1 => uniW (prev (k + 1)) (nxtW m m.locks (endK m prev k))
def endW (m : Mc) (log : List Int) : Nat → Nat → Nat → Bool
  | 0 => endK m fun k => if k = 0 then begW else fun _ => false
  | i + 1 => endK m fun k => match log[i]? with | some g => behW m m.locks (endW m log i k) g | none => fun _ => false
def endsW (m : Mc) (log : List Int) (lost : Nat) : Nat → Bool := fun j => (List.range (lost + 1)).any fun k => endW m log log.length k j
theorem endK_iff {m : Mc} {prev : Nat → Nat → Bool} {E : Nat → Sd → Prop} {Pv : Nat → Sd → Prop} (hp : ∀ k j, j < 24 → (prev k j = true ↔ Pv k (sdOf j))) (h0 : ∀ s, E 0 s ↔ Pv 0 s)
    (h1 : ∀ k j, j < 24 → (E (k + 1) (sdOf j) ↔ Pv (k + 1) (sdOf j) ∨ ∃ i, i < 24 ∧ E k (sdOf i) ∧ Stp m m.locks (sdOf i) (sdOf j))) : ∀ k j, j < 24 → (endK m prev k j = true ↔ E k (sdOf j))
  | 0, j, hj => by show prev 0 j = true ↔ _; rw [hp 0 j hj, h0]
  | k + 1, j, hj => by
    show (prev (k + 1) j || nxtW m m.locks (endK m prev k) j) = true ↔ _
    rw [Bool.or_eq_true, hp _ j hj, h1 k j hj, nxtW_iff]
    refine or_congr Iff.rfl ⟨fun ⟨i, hi, h2, h3⟩ => ⟨i, hi, (endK_iff hp h0 h1 k i hi).1 h2, h3⟩, fun ⟨i, hi, h2, h3⟩ => ⟨i, hi, (endK_iff hp h0 h1 k i hi).2 h2, h3⟩⟩
theorem endW_iff {m : Mc} (V : Valid m) (log : List Int) : ∀ (i k j : Nat), j < 24 → (endW m log i k j = true ↔ EndR m log i k (sdOf j))
  | 0, k, j, hj => by
    refine endK_iff (E := EndR m log 0) (Pv := fun k s => k = 0 ∧ s = ⟨0, 0⟩) (fun k j hj => ?_) (fun s => ?_) (fun k j hj => ?_) k j hj
    · by_cases hk : k = 0
      · subst hk
        rw [if_pos rfl]
        constructor
        · intro h; have : j = 0 := of_decide_eq_true h; subst this; exact ⟨rfl, rfl⟩
        · rintro ⟨_, h⟩
          have : ix (sdOf j) = 0 := by rw [h]; rfl
          rw [ix_sd] at this; subst this; rfl
      · rw [if_neg hk]; simp [hk]
    · constructor
      · intro h; cases h; exact ⟨rfl, rfl⟩
      · rintro ⟨_, rfl⟩; exact .zero
    · constructor
      · intro h
        generalize hs : sdOf j = s at h
        cases h with
        | @lost _ _ s' _ h hst =>
          have hin := (h.inM V).ix V
          exact .inr ⟨ix s', hin.1, by rw [hin.2]; exact h, by rw [hin.2]; exact hst⟩
      · rintro (⟨h, _⟩ | ⟨i, _, h2, h3⟩)
        · omega
        · exact .lost h2 h3
  | i + 1, k, j, hj => by
    refine endK_iff (E := EndR m log (i + 1)) (Pv := fun k s => ∃ u g, EndR m log i k u ∧ log[i]? = some g ∧ s ∈ nextL m m.locks u g) (fun k j hj => ?_) (fun s => ?_) (fun k j hj => ?_) k j hj
    · cases hg : log[i]? with
      | none => simp
      | some g =>
        show behW m m.locks (endW m log i k) g j = true ↔ _
        rw [behW_iff]
        constructor
        · rintro ⟨u, hu, h1, h2⟩
          exact ⟨_, g, (endW_iff V log i k u hu).1 h1, rfl, h2⟩
        · rintro ⟨u, g', h1, h2, h3⟩
          cases h2
          have hin := (h1.inM V).ix V
          exact ⟨ix u, hin.1, (endW_iff V log i k _ hin.1).2 (by rw [hin.2]; exact h1), by rw [hin.2]; exact h3⟩
    · constructor
      · intro h; cases h with | log h hg ht => exact ⟨_, _, h, hg, ht⟩
      · rintro ⟨u, g, h1, h2, h3⟩; exact .log h1 h2 h3
    · constructor
      · intro h
        generalize hs : sdOf j = s at h
        cases h with
        | log h hg ht => exact .inl ⟨_, _, h, hg, ht⟩
        | @lost _ _ s' _ h hst =>
          have hin := (h.inM V).ix V
          exact .inr ⟨ix s', hin.1, by rw [hin.2]; exact h, by rw [hin.2]; exact hst⟩
      · rintro (⟨u, g, h1, h2, h3⟩ | ⟨i, _, h2, h3⟩)
        · exact .log h1 h2 h3
        · exact .lost h2 h3
theorem endsW_iff {m : Mc} (V : Valid m) (log : List Int) (lost j : Nat) (hj : j < 24) : endsW m log lost j = true ↔ ∃ k, k ≤ lost ∧ EndR m log log.length k (sdOf j) := by
  simp only [endsW, List.any_eq_true, List.mem_range, endW_iff V log _ _ j hj]
  exact ⟨fun ⟨k, h1, h2⟩ => ⟨k, by omega, h2⟩, fun ⟨k, h1, h2⟩ => ⟨k, by omega, h2⟩⟩
/-! As it is gathered. -/
abbrev Kn := Nt → Option (Nat → Bool)
def getK (A : Kn) (i k : Nat) : Nat → Bool := (A ⟨i, k⟩).getD fun _ => false
def setK (A : Kn) (i k j : Nat) : Kn := upd A ⟨i, k⟩ (updW (getK A i k) j true)
theorem getK_set (A : Kn) (i k j : Nat) (i' k' j' : Nat) : getK (setK A i k j) i' k' j' = if i' = i ∧ k' = k ∧ j' = j then true else getK A i' k' j' := by
  unfold getK setK upd
  by_cases h1 : i' = i ∧ k' = k
  · obtain ⟨rfl, rfl⟩ := h1
    rw [if_pos rfl]
    show updW _ j true j' = _
    unfold updW
    by_cases h2 : j' = j
    · rw [if_pos h2, if_pos ⟨rfl, rfl, h2⟩]
    · rw [if_neg h2, if_neg fun h => h2 h.2.2]; rfl
  · rw [if_neg fun h => h1 (by rw [Nt.ext'] at h; simp only at h; omega), if_neg fun h => h1 ⟨h.1, h.2.1⟩]
def Dn (m : Mc) (log : List Int) (A : Kn) (i k : Nat) (s : Sd) : Prop := (∀ g t, log[i]? = some g → t ∈ nextL m m.locks s g → getK A (i + 1) k (ix t) = true) ∧ ∀ t, Stp m m.locks s t → getK A i (k + 1) (ix t) = true
structure EndI (m : Mc) (log : List Int) (lost : Nat) (A : Kn) (i k : Nat) : Prop where
  sound : ∀ i' k' j, j < 24 → getK A i' k' j = true → EndR m log i' k' (sdOf j)
  zero : getK A 0 0 0 = true
  row : ∀ i', i' < i → ∀ k', k' ≤ lost → ∀ s, EndR m log i' k' s → Dn m log A i' k' s
  col : ∀ k', k' < k → ∀ s, EndR m log i k' s → Dn m log A i k' s
theorem EndI.exact {m : Mc} (V : Valid m) {log : List Int} {lost : Nat} {A : Kn} {i k : Nat} (h : EndI m log lost A i k) (hk : k ≤ lost) {j : Nat} (hj : j < 24) : getK A i k j = true ↔ EndR m log i k (sdOf j) := by
  refine ⟨h.sound i k j hj, fun h1 => ?_⟩
  generalize hs : sdOf j = s at h1
  have hjx : j = ix s := by rw [← hs, ix_sd]
  cases h1 with
  | zero => rw [hjx]; exact h.zero
  | log h2 hg ht => rw [hjx]; exact (h.row _ (by omega) k hk _ h2).1 _ _ hg ht
  | lost h2 hst => rw [hjx]; exact (h.col _ (by omega) _ h2).2 _ hst
theorem Dn.mono {m : Mc} {log : List Int} {A A' : Kn} (hA : ∀ i k j, getK A i k j = true → getK A' i k j = true) {i k : Nat} {s : Sd} (h : Dn m log A i k s) : Dn m log A' i k s :=
  ⟨fun g t hg ht => hA _ _ _ (h.1 g t hg ht), fun t hst => hA _ _ _ (h.2 t hst)⟩
theorem EndI.mono {m : Mc} {log : List Int} {lost : Nat} {A A' : Kn} {i k : Nat} (h : EndI m log lost A i k) (hA : ∀ i k j, getK A i k j = true → getK A' i k j = true) (hs : ∀ i' k' j, j < 24 → getK A' i' k' j = true → EndR m log i' k' (sdOf j)) : EndI m log lost A' i k :=
  ⟨hs, hA _ _ _ h.zero, fun i' h1 k' h2 s h3 => (h.row i' h1 k' h2 s h3).mono hA, fun k' h2 s h3 => (h.col k' h2 s h3).mono hA⟩
/-- For one stand, one signal, and one that comes next. -/
def D1 (log : List Int) (A : Kn) (i k : Nat) (g : Int) (t : Sd) : Prop := (log[i]? = some g → getK A (i + 1) k (ix t) = true) ∧ getK A i (k + 1) (ix t) = true
structure EndJ (m : Mc) (log : List Int) (lost : Nat) (A : Kn) (i k : Nat) (L : List Sd) (q g : Nat) (p : List Sd) : Prop where
  base : EndI m log lost A i k
  fin : ∀ s ∈ L.take q, Dn m log A i k s
  sig : ∀ s, L[q]? = some s → ∀ g' : Nat, g' < g → ∀ t ∈ nextL m m.locks s (g' : Int), D1 log A i k (g' : Int) t
  now : ∀ s, L[q]? = some s → ∀ t ∈ p, D1 log A i k (g : Int) t
/-- What one step makes of the map. -/
def addK (log : List Int) (A : Kn) (i k : Nat) (g : Int) (t : Sd) : Kn := setK (if log[i]? = some g then setK A (i + 1) k (ix t) else A) i (k + 1) (ix t)
theorem addK_mono {log : List Int} {A : Kn} {i k : Nat} {g : Int} {t : Sd} : ∀ i' k' j, getK A i' k' j = true → getK (addK log A i k g t) i' k' j = true := fun i' k' j h => by
  unfold addK
  rw [getK_set]
  split
  · rfl
  · split
    · rw [getK_set]
      split
      · rfl
      · exact h
    · exact h
theorem EndJ.add {m : Mc} (V : Valid m) {log : List Int} {lost : Nat} {A : Kn} {i k : Nat} {L : List Sd} {q g : Nat} {p : List Sd} (h : EndJ m log lost A i k L q g p) (hg : g < 8) {s t : Sd} (hs : L[q]? = some s) (hE : EndR m log i k s) (ht : t ∈ nextL m m.locks s (g : Int)) :
    EndJ m log lost (addK log A i k (g : Int) t) i k L q g (p ++ [t]) := by
  have hin := (next_in V (hE.inM V) ht).ix V
  have hD : ∀ g' t', D1 log A i k g' t' → D1 log (addK log A i k (g : Int) t) i k g' t' := fun g' t' h1 => ⟨fun h2 => addK_mono _ _ _ (h1.1 h2), addK_mono _ _ _ h1.2⟩
  refine ⟨h.base.mono addK_mono fun i' k' j hj hh => ?_, fun s' hs' => (h.fin s' hs').mono addK_mono, fun s' hs' g' hg' t' ht' => hD _ _ (h.sig s' hs' g' hg' t' ht'), fun s' hs' t' ht' => ?_⟩
  · unfold addK at hh
    rw [getK_set] at hh
    split at hh
    · rename_i e
      obtain ⟨rfl, rfl, rfl⟩ := e
      rw [hin.2]
      exact .lost hE ⟨g, hg, ht⟩
    · split at hh
      · rename_i e2
        rw [getK_set] at hh
        split at hh
        · rename_i e
          obtain ⟨rfl, rfl, rfl⟩ := e
          rw [hin.2]
          exact .log hE e2 ht
        · exact h.base.sound i' k' j hj hh
      · exact h.base.sound i' k' j hj hh
  · rcases List.mem_append.1 ht' with ht' | ht'
    · exact hD _ _ (h.now s' hs' t' ht')
    · rw [List.mem_singleton.1 ht']
      refine ⟨fun e => ?_, ?_⟩
      · unfold addK
        rw [if_pos e, getK_set]
        split
        · rfl
        · rw [getK_set, if_pos ⟨rfl, rfl, rfl⟩]
      · unfold addK
        rw [getK_set, if_pos ⟨rfl, rfl, rfl⟩]
theorem EndJ.next {m : Mc} {log : List Int} {lost : Nat} {A : Kn} {i k : Nat} {L : List Sd} {q g : Nat} {s : Sd} (hs : L[q]? = some s) (h : EndJ m log lost A i k L q g (nextL m m.locks s (g : Int))) : EndJ m log lost A i k L q (g + 1) [] :=
  ⟨h.base, h.fin, fun s' hs' g' hg' t ht => by
    rw [hs] at hs'; cases hs'
    by_cases e : g' = g
    · subst e; exact h.now _ hs t ht
    · exact h.sig _ hs g' (by omega) t ht, fun _ _ t ht => by cases ht⟩
theorem EndJ.after {m : Mc} {log : List Int} (hlog : ∀ g ∈ log, 0 ≤ g ∧ g ≤ 7) {lost : Nat} {A : Kn} {i k : Nat} {L : List Sd} {q : Nat} {s : Sd} (hs : L[q]? = some s) (h : EndJ m log lost A i k L q 8 []) : EndJ m log lost A i k L (q + 1) 0 [] := by
  refine ⟨h.base, fun s' hs' => ?_, fun _ _ g' hg' => by omega, fun _ _ t ht => by cases ht⟩
  obtain ⟨hi, e⟩ := List.getElem?_eq_some_iff.1 hs
  rw [take_snoc hi, e] at hs'
  rcases List.mem_append.1 hs' with hs' | hs'
  · exact h.fin s' hs'
  · obtain rfl := List.mem_singleton.1 hs'
    refine ⟨fun g t hg ht => ?_, fun t ⟨g, hg, ht⟩ => (h.sig _ hs g hg t ht).2⟩
    have hb := hlog g (List.mem_of_getElem? hg)
    obtain ⟨n, rfl⟩ : ∃ n : Nat, g = (n : Int) := ⟨g.toNat, by omega⟩
    exact (h.sig _ hs n (by omega) t ht).1 hg
/-- The stands of one place are gone through. -/
theorem EndI.start {m : Mc} {log : List Int} {lost : Nat} {A : Kn} {i k : Nat} (h : EndI m log lost A i k) (L : List Sd) : EndJ m log lost A i k L 0 0 [] :=
  ⟨h, fun s hs => by simp at hs, fun _ _ g' hg' => by omega, fun _ _ t ht => by cases ht⟩
theorem EndJ.col {m : Mc} {log : List Int} {lost : Nat} {A : Kn} {i k : Nat} {L : List Sd} (hL : ∀ s, s ∈ L ↔ EndR m log i k s) {g : Nat} {p : List Sd} (h : EndJ m log lost A i k L L.length g p) : EndI m log lost A i (k + 1) :=
  ⟨h.base.sound, h.base.zero, h.base.row, fun k' hk' s hs => by
    by_cases e : k' = k
    · subst e; exact h.fin s (by rw [List.take_length]; exact (hL s).2 hs)
    · exact h.base.col k' (by omega) s hs⟩
theorem EndI.rowup {m : Mc} {log : List Int} {lost : Nat} {A : Kn} {i : Nat} (h : EndI m log lost A i (lost + 1)) : EndI m log lost A (i + 1) 0 :=
  ⟨h.sound, h.zero, fun i' hi' k' hk' s hs => by
    by_cases e : i' = i
    · subst e; exact h.col k' (by omega) s hs
    · exact h.row i' (by omega) k' hk' s hs, fun k' hk' => by omega⟩
theorem EndI.begin (m : Mc) (log : List Int) (lost : Nat) : EndI m log lost (upd (fun _ => none) ⟨0, 0⟩ begW) 0 0 := by
  refine ⟨fun i' k' j hj h => ?_, rfl, fun _ h => by omega, fun _ h => by omega⟩
  unfold getK upd at h
  split at h
  · rename_i e
    rw [Nt.ext'] at e
    have e1 : i' = 0 := by simpa using e.1
    have e2 : k' = 0 := by simpa using e.2
    subst e1 e2
    have : j = 0 := of_decide_eq_true h
    subst this
    exact .zero
  · cases h
theorem mem_standsW {w : Nat → Bool} {s : Sd} : s ∈ standsW w ↔ ∃ j, j < 24 ∧ w j = true ∧ s = sdOf j := by
  unfold standsW standsN
  simp only [List.mem_map, List.mem_filter, List.mem_range]
  exact ⟨fun ⟨j, ⟨h1, h2⟩, h3⟩ => ⟨j, h1, h2, h3.symm⟩, fun ⟨j, h1, h2, h3⟩ => ⟨j, ⟨h1, h2⟩, h3.symm⟩⟩
theorem EndI.stands {m : Mc} (V : Valid m) {log : List Int} {lost : Nat} {A : Kn} {i k : Nat} (h : EndI m log lost A i k) (hk : k ≤ lost) (s : Sd) : s ∈ standsW (getK A i k) ↔ EndR m log i k s := by
  rw [mem_standsW]
  constructor
  · rintro ⟨j, hj, h1, rfl⟩
    exact (h.exact V hk hj).1 h1
  · intro h1
    have hin := (h1.inM V).ix V
    exact ⟨ix s, hin.1, (h.exact V hk hin.1).2 (by rw [hin.2]; exact h1), hin.2.symm⟩
theorem EndI.last {m : Mc} (V : Valid m) {log : List Int} {lost : Nat} {A : Kn} (h : EndI m log lost A (log.length + 1) 0) {k : Nat} (hk : k ≤ lost) (s : Sd) : s ∈ standsW (getK A log.length k) ↔ EndR m log log.length k s :=
  EndI.stands V (lost := lost) (A := A) (i := log.length) (k := k) ⟨h.sound, h.zero, fun i' hi' => h.row i' (by omega), fun k' hk' s hs => h.row log.length (by omega) k' (by omega) s hs⟩ hk s
end Go.Proofs.Ytgbfjcgjcnndpaa

/- Walks of cycle: Ends. -/
namespace Go.Proofs.Ytgbfjcgjcnndpaa
open Go.RowKit Go.Shelf

section
variable {X : Ctx} {P : Program} {st : Sto} {H : List Chunk} {R : World → Prop} {d : Option Nat} {ty : TypeId} {pos : String} {af : Array Edge} {g : Option (Nat × Bool)}
theorem det_lookup1D {κ ν : Type} {x y : Operand} {t K E : TypeId} {b : Nat} {ek : κ → Value} {ev : ν → Value} {m : κ → Option ν} (z : ν) (key : κ) (hx : opnd st x = some (.map (some b))) [hb : MapAt H b κ ν ek ev m] (hy : opnd st y = some (ek key))
    (G : GoodKey P K ek) (hT : P.underlying t = some (.map K E)) (hz : ∀ w, (zeroValue E).run P w = .ok (ev z) w) : Det X P ⟨d, .lookup t x y false, ty, pos, af, g⟩ st H R (ev ((m key).getD z)) := by
  have := det_lookup1 (X := X) (P := P) (H := H) (R := R) (d := d) (ty := ty) (pos := pos) (af := af) (g := g) key hx hy G hT hz
  cases hm : m key <;> rw [hm] at this <;> exact this
end
theorem chkN_run (n : Nat) (e : Bool) (a : Nt) (w : World) : (Instr.checkKey e (n + 2) 122 (ekN a)).run Try.prog w = .ok () w := by
  unfold ekN
  simp [Instr.checkKey, go_sem]
theorem eqN (x0 x1 y0 y1 : Int) : ∀ w, (Op.equalIn 10000 122 (.agg #[I x0, I x1]) (.agg #[I y0, I y1])).run Try.prog w = .ok (decide (x0 = y0 ∧ x1 = y1)) w := fun w => by
  have ht : Try.prog.underlying 122 = some (.struct (Try.prog.fieldsOf 122)) := by simp [Program.fieldsOf]
  rw [run_equalIn_struct w 9999 122 _ _ ht (by kernel_rfl)]
  clear ht
  simp [go_sem]
  by_cases h0 : x0 = y0 <;> by_cases h1 : x1 = y1 <;> simp [*]
theorem goodN : GoodKey Try.prog 122 ekN := by
  refine GoodKey.of_struct Try.underlying122 (fun b k w => chkN_run 9998 b k w) (fun a b w => ?_) (fun k => ?_) (fun a b h => ?_)
  · show (Op.equalIn 10000 122 (.agg #[I a.lg, I a.ls]) (.agg #[I b.lg, I b.ls])).run Try.prog w = _
    rw [eqN]
    congr 1; exact decide_eq_decide.2 Nt.ext'.symm
  · show Instr.sameBits (9999 + 1) _ _ = true
    simp [ekN, Instr.sameBits]
  · simp [ekN] at h; exact Nt.ext'.2 h
theorem zeroB (w : World) : (zeroValue 103).run Try.prog w = .ok (evB fun _ => false) w := Try.zeroValue103 w
theorem standsW_congr {w w' : Nat → Bool} (h : ∀ j, j < 24 → w j = w' j) : standsW w = standsW w' := by
  unfold standsW standsN
  congr 1
  exact List.filter_congr fun j hj => h j (List.mem_range.1 hj)
theorem Ends1_j (n : Int) : Cv Try.prog 73 [I n] KTrue (.bool (inI n 0 7)) := by
  refine Cx_of Try.func73 rfl Try.ntmps73 rfl fun w0 M0 => ?_
  refine JC_seq ?_
  refine JC_region ?_
  refine JL_pd rfl (det_assign rfl) ?_
  refine JL_nil ?_
  refine JE_seq ?_
  refine JC_seq ?_
  refine JC_region ?_
  refine JL_pd rfl (det_move rfl) ?_
  refine JL_step rfl rfl rfl (jo_callv rfl rfl Try.call51 rfl (within_j _ _ _)) fun _ => ?_
  refine JL_pd rfl (det_assign rfl) ?_
  refine JL_nil ?_
  refine JE_seq ?_
  refine JC_ret ?_
  -- stop: out
  refine JE_out (.inl rfl) () (results1 Try.results73 (res_tmp rfl)) rfl (List.Perm.refl _) (fun _ _ => trivial)
theorem Ends_je (m : Mc) (a : MA) (lost : Int) (sa : Option Addr) (sc : Nat) (log : List Int) (he : fault m ≠ 0) : Cv Try.prog 34 [.agg #[I m.states, .slice a.sa m.steps.length a.sc, .slice a.ra m.running.length a.rc, .slice a.ka m.locks.length a.kc], .slice sa log.length sc, I lost] (KAnd (KMc m a) (KSl sa log.length sc encI log)) (.tuple #[.slice none 0 0, I (fault m)]) := by
  refine Cx_of Try.func34 rfl Try.ntmps34 rfl fun w0 M0 => ?_
  refine JC_seq ?_
  refine JC_region ?_
  refine JL_step rfl rfl rfl (jo_box rfl rfl) fun b3 => ?_
  refine JL_step rfl rfl rfl (jo_box rfl rfl) fun b4 => ?_
  refine JL_pd rfl (det_assign rfl) ?_
  refine JL_pd rfl (det_assign rfl) ?_
  refine JL_nil ?_
  refine JE_seq ?_
  refine JC_seq ?_
  refine JC_seq ?_
  refine JC_region ?_
  refine JL_dt rfl (det_loadKA rfl Try.isAgg34 Try.sizeOf34 rfl rfl) ?_
  refine JL_step rfl rfl rfl (jo_callv rfl rfl Try.call19 rfl (CheckMachine_j m a)) fun _ => ?_
  refine JL_pd rfl (det_assign rfl) ?_
  refine JL_nil ?_
  refine JE_seq ?_
  refine JC_seq ?_
  refine JC_region ?_
  refine JL_pd rfl (det_move rfl) ?_
  refine JL_pd rfl (det_neq rfl rfl) ?_
  refine JL_nil ?_
  refine JE_seq ?_
  -- stop: cond
  refine JC_ifn rfl (fun h1 => ?_) (fun h1 => ?_)
  · refine JC_seq ?_
    refine JC_region ?_
    refine JL_pd rfl (det_move rfl) ?_
    refine JL_pd rfl (det_assign rfl) ?_
    refine JL_pd rfl (det_assign rfl) ?_
    refine JL_nil ?_
    refine JE_seq ?_
    refine JC_ret ?_
    refine JE_seq_ret ?_
    -- stop: out
    refine JE_out (.inl rfl) () (results2 Try.results34 (res_tmp rfl) (res_tmp rfl)) rfl (List.Perm.refl _) (fun _ _ => trivial)
  · exact absurd h1 he
theorem Ends_jl (m : Mc) (a : MA) (lost : Int) (sa : Option Addr) (sc : Nat) (log : List Int) (he : fault m = 0) (hl : 20 < log.length) : Cv Try.prog 34 [.agg #[I m.states, .slice a.sa m.steps.length a.sc, .slice a.ra m.running.length a.rc, .slice a.ka m.locks.length a.kc], .slice sa log.length sc, I lost] (KAnd (KMc m a) (KSl sa log.length sc encI log)) (.tuple #[.slice none 0 0, I 3]) := by
  refine Cx_of Try.func34 rfl Try.ntmps34 rfl fun w0 M0 => ?_
  refine JC_seq ?_
  refine JC_region ?_
  refine JL_step rfl rfl rfl (jo_box rfl rfl) fun b3 => ?_
  refine JL_step rfl rfl rfl (jo_box rfl rfl) fun b4 => ?_
  refine JL_pd rfl (det_assign rfl) ?_
  refine JL_pd rfl (det_assign rfl) ?_
  refine JL_nil ?_
  refine JE_seq ?_
  refine JC_seq ?_
  refine JC_seq ?_
  refine JC_region ?_
  refine JL_dt rfl (det_loadKA rfl Try.isAgg34 Try.sizeOf34 rfl rfl) ?_
  refine JL_step rfl rfl rfl (jo_callv rfl rfl Try.call19 rfl (CheckMachine_j m a)) fun _ => ?_
  refine JL_pd rfl (det_assign rfl) ?_
  refine JL_nil ?_
  refine JE_seq ?_
  refine JC_seq ?_
  refine JC_region ?_
  refine JL_pd rfl (det_move rfl) ?_
  refine JL_pd rfl (det_neq rfl rfl) ?_
  refine JL_nil ?_
  refine JE_seq ?_
  -- stop: cond
  refine JC_ifn rfl (fun h1 => ?_) (fun h1 => ?_)
  · exact absurd he h1
  · refine JC_skip ?_
    refine JE_seq ?_
    refine JC_seq ?_
    refine JC_region ?_
    refine JL_pd rfl (det_assign rfl) ?_
    refine JL_nil ?_
    refine JE_seq ?_
    refine JC_seq ?_
    refine JC_block ?_
    refine JC_seq ?_
    refine JC_region ?_
    refine JL_dt rfl (det_loadK rfl Try.isAgg23 rfl) ?_
    refine JL_pd rfl (det_len rfl Try.runUnderlying23) ?_
    refine JL_pd rfl (det_gtr rfl rfl) ?_
    refine JL_pd rfl (det_assign rfl) ?_
    refine JL_nil ?_
    refine JE_seq ?_
    -- stop: cond
    refine JC_if rfl (fun h2 => ?_) (fun h2 => ?_)
    · refine JC_seq ?_
      refine JC_region ?_
      refine JL_pd rfl (det_assign rfl) ?_
      refine JL_pd rfl (det_assign rfl) ?_
      refine JL_nil ?_
      refine JE_seq ?_
      refine JC_ret ?_
      refine JE_block_ret ?_
      refine JE_seq_ret ?_
      -- stop: out
      refine JE_out (.inl rfl) () (results2 Try.results34 (res_tmp rfl) (res_tmp rfl)) rfl (List.Perm.refl _) (fun _ _ => trivial)
    · omega
theorem Ends_jr (m : Mc) (a : MA) (lost : Int) (sa : Option Addr) (sc : Nat) (log : List Int) (he : fault m = 0) (hl : log.length ≤ 20) (hr : (log.all (fun n => inI n 0 7) && inI lost 0 5) = false) : Cv Try.prog 34 [.agg #[I m.states, .slice a.sa m.steps.length a.sc, .slice a.ra m.running.length a.rc, .slice a.ka m.locks.length a.kc], .slice sa log.length sc, I lost] (KAnd (KMc m a) (KSl sa log.length sc encI log)) (.tuple #[.slice none 0 0, I 2]) := by
  have hallI := allI_j (fun n => inI n 0 7) 73 [] [] KTrue Try.call73 (fun x => Ends1_j x) sa sc log (by omega)
  refine Cx_of Try.func34 rfl Try.ntmps34 rfl fun w0 M0 => ?_
  refine JC_seq ?_
  refine JC_region ?_
  refine JL_step rfl rfl rfl (jo_box rfl rfl) fun b3 => ?_
  refine JL_step rfl rfl rfl (jo_box rfl rfl) fun b4 => ?_
  refine JL_pd rfl (det_assign rfl) ?_
  refine JL_pd rfl (det_assign rfl) ?_
  refine JL_nil ?_
  refine JE_seq ?_
  refine JC_seq ?_
  refine JC_seq ?_
  refine JC_region ?_
  refine JL_dt rfl (det_loadKA rfl Try.isAgg34 Try.sizeOf34 rfl rfl) ?_
  refine JL_step rfl rfl rfl (jo_callv rfl rfl Try.call19 rfl (CheckMachine_j m a)) fun _ => ?_
  refine JL_pd rfl (det_assign rfl) ?_
  refine JL_nil ?_
  refine JE_seq ?_
  refine JC_seq ?_
  refine JC_region ?_
  refine JL_pd rfl (det_move rfl) ?_
  refine JL_pd rfl (det_neq rfl rfl) ?_
  refine JL_nil ?_
  refine JE_seq ?_
  -- stop: cond
  refine JC_ifn rfl (fun h1 => ?_) (fun h1 => ?_)
  · exact absurd he h1
  · refine JC_skip ?_
    refine JE_seq ?_
    refine JC_seq ?_
    refine JC_region ?_
    refine JL_pd rfl (det_assign rfl) ?_
    refine JL_nil ?_
    refine JE_seq ?_
    refine JC_seq ?_
    refine JC_block ?_
    refine JC_seq ?_
    refine JC_region ?_
    refine JL_dt rfl (det_loadK rfl Try.isAgg23 rfl) ?_
    refine JL_pd rfl (det_len rfl Try.runUnderlying23) ?_
    refine JL_pd rfl (det_gtr rfl rfl) ?_
    refine JL_pd rfl (det_assign rfl) ?_
    refine JL_nil ?_
    refine JE_seq ?_
    -- stop: cond
    refine JC_if rfl (fun h2 => ?_) (fun h2 => ?_)
    · omega
    · refine JC_seq ?_
      refine JC_region ?_
      refine JL_dt rfl (det_loadK rfl Try.isAgg23 rfl) ?_
      refine JL_pd rfl (det_move rfl) ?_
      refine JL_step rfl rfl rfl (jo_callv rfl rfl Try.call54 rfl (hallI)) fun _ => ?_
      refine JL_pd rfl (det_not rfl) ?_
      refine JL_pd rfl (det_move rfl) ?_
      -- stop: guard 4
      refine JL_join1 5 34 (.bool (!(log.all (fun n => inI n 0 7) && inI lost 0 5))) (fun hj => ?_) ?_
      · refine JL_split (d0 := 39) rfl (fun q1 => ?_) (fun q1 => ?_)
        · refine JL_skip rfl rfl q1 rfl ?_
          refine JL_skip rfl rfl q1 rfl ?_
          refine JL_skip rfl rfl q1 rfl ?_
          refine JL_pd rfl (det_pick_t rfl q1 rfl) ?_
          refine JL_pd rfl (det_assign rfl) ?_
          exact hj (by kernel_rfl) (stsub_consB rfl (by clear hj; first | rfl | (simp only [q1, Bool.and_true, Bool.true_and, Bool.false_and, Bool.and_false, Bool.or_true, Bool.true_or, Bool.or_false, Bool.false_or, Bool.not_true, Bool.not_false]; done) | (simp [q1]; done) | (simp at q1; done) | (simp [q1] <;> omega) | (exfalso; simp at q1; omega)) stsub_nil)
        · refine JL_guard rfl rfl q1 ?_
          refine JL_pd rfl (det_move rfl) ?_
          refine JL_guard rfl rfl q1 ?_
          refine JL_step rfl rfl rfl (jo_callv rfl rfl Try.call51 rfl (within_j _ _ _)) fun _ => ?_
          refine JL_guard rfl rfl q1 ?_
          refine JL_pd rfl (det_not rfl) ?_
          refine JL_pd rfl (det_pick_f rfl q1 rfl) ?_
          refine JL_pd rfl (det_assign rfl) ?_
          exact hj (by kernel_rfl) (stsub_consB rfl (by clear hj; first | rfl | (simp only [q1, Bool.and_true, Bool.true_and, Bool.false_and, Bool.and_false, Bool.or_true, Bool.true_or, Bool.or_false, Bool.false_or, Bool.not_true, Bool.not_false]; done) | (simp [q1]; done) | (simp at q1; done) | (simp [q1] <;> omega) | (exfalso; simp at q1; omega)) stsub_nil)
      refine JL_nil ?_
      refine JE_seq ?_
      -- stop: cond
      refine JC_cond rfl (fun h3 => ?_) (fun h3 => ?_)
      · refine JC_seq ?_
        refine JC_region ?_
        refine JL_pd rfl (det_assign rfl) ?_
        refine JL_pd rfl (det_assign rfl) ?_
        refine JL_nil ?_
        refine JE_seq ?_
        refine JC_ret ?_
        refine JE_block_ret ?_
        refine JE_seq_ret ?_
        -- stop: out
        refine JE_out (.inl rfl) () (results2 Try.results34 (res_tmp rfl) (res_tmp rfl)) rfl (List.Perm.refl _) (fun _ _ => trivial)
      · rw [hr] at h3; cases h3
set_option maxRecDepth 100000 in
set_option maxHeartbeats 2000000 in
theorem Ends_jo (m : Mc) (a : MA) (lost : Nat) (sa : Option Addr) (sc : Nat) (log : List Int) (he : fault m = 0) (hl : log.length ≤ 20) (hlost : lost ≤ 5) (hlog : ∀ g ∈ log, 0 ≤ g ∧ g ≤ 7) :
    Cr Try.prog 34 [.agg #[I m.states, .slice a.sa m.steps.length a.sc, .slice a.ra m.running.length a.rc, .slice a.ka m.locks.length a.kc], .slice sa log.length sc, I lost] (KAnd (KMc m a) (KSl sa log.length sc encI log)) (fun q : Option Addr × Nat => .tuple #[.slice q.1 (standsW (endsW m log lost)).length q.2, I (if standsW (endsW m log lost) = [] then 11 else 0)]) (fun q => KSl q.1 (standsW (endsW m log lost)).length q.2 encSd (standsW (endsW m log lost))) := by
  have V := valid_of he
  have hlk := V.nl
  have hst := V.ns
  have s2 := V.s2
  have hallI := allI_j (fun n => inI n 0 7) 73 [] [] KTrue Try.call73 (fun x => Ends1_j x) sa sc log (by omega)
  have hr : (log.all (fun n => inI n 0 7) && inI lost 0 5) = true := by
    rw [Bool.and_eq_true, List.all_eq_true]
    exact ⟨fun g hg => decide_eq_true (hlog g hg), decide_eq_true (by omega)⟩
  refine Cx_of Try.func34 rfl Try.ntmps34 rfl fun w0 M0 => ?_
  refine JC_seq ?_
  refine JC_region ?_
  refine JL_step rfl rfl rfl (jo_box rfl rfl) fun b3 => ?_
  refine JL_step rfl rfl rfl (jo_box rfl rfl) fun b4 => ?_
  refine JL_pd rfl (det_assign rfl) ?_
  refine JL_pd rfl (det_assign rfl) ?_
  refine JL_nil ?_
  refine JE_seq ?_
  refine JC_seq ?_
  refine JC_seq ?_
  refine JC_region ?_
  refine JL_dt rfl (det_loadKA rfl Try.isAgg34 Try.sizeOf34 rfl rfl) ?_
  refine JL_step rfl rfl rfl (jo_callv rfl rfl Try.call19 rfl (CheckMachine_j m a)) fun _ => ?_
  refine JL_pd rfl (det_assign rfl) ?_
  refine JL_nil ?_
  refine JE_seq ?_
  refine JC_seq ?_
  refine JC_region ?_
  refine JL_pd rfl (det_move rfl) ?_
  refine JL_pd rfl (det_neq rfl rfl) ?_
  refine JL_nil ?_
  refine JE_seq ?_
  -- stop: cond
  refine JC_ifn rfl (fun h1 => ?_) (fun h1 => ?_)
  · exact absurd he h1
  · refine JC_skip ?_
    refine JE_seq ?_
    refine JC_seq ?_
    refine JC_region ?_
    refine JL_pd rfl (det_assign rfl) ?_
    refine JL_nil ?_
    refine JE_seq ?_
    refine JC_seq ?_
    refine JC_block ?_
    refine JC_seq ?_
    refine JC_region ?_
    refine JL_dt rfl (det_loadK rfl Try.isAgg23 rfl) ?_
    refine JL_pd rfl (det_len rfl Try.runUnderlying23) ?_
    refine JL_pd rfl (det_gtr rfl rfl) ?_
    refine JL_pd rfl (det_assign rfl) ?_
    refine JL_nil ?_
    refine JE_seq ?_
    -- stop: cond
    refine JC_if rfl (fun h2 => ?_) (fun h2 => ?_)
    · omega
    · refine JC_seq ?_
      refine JC_region ?_
      refine JL_dt rfl (det_loadK rfl Try.isAgg23 rfl) ?_
      refine JL_pd rfl (det_move rfl) ?_
      refine JL_step rfl rfl rfl (jo_callv rfl rfl Try.call54 rfl (hallI)) fun _ => ?_
      refine JL_pd rfl (det_not rfl) ?_
      refine JL_pd rfl (det_move rfl) ?_
      -- stop: guard 4
      refine JL_join1 5 34 (.bool (!(log.all (fun n => inI n 0 7) && inI lost 0 5))) (fun hj => ?_) ?_
      · refine JL_split (d0 := 39) rfl (fun q2 => ?_) (fun q2 => ?_)
        · refine JL_skip rfl rfl q2 rfl ?_
          refine JL_skip rfl rfl q2 rfl ?_
          refine JL_skip rfl rfl q2 rfl ?_
          refine JL_pd rfl (det_pick_t rfl q2 rfl) ?_
          refine JL_pd rfl (det_assign rfl) ?_
          exact hj (by kernel_rfl) (stsub_consB rfl (by clear hj; first | rfl | (simp only [q2, Bool.and_true, Bool.true_and, Bool.false_and, Bool.and_false, Bool.or_true, Bool.true_or, Bool.or_false, Bool.false_or, Bool.not_true, Bool.not_false]; done) | (simp [q2]; done) | (simp at q2; done) | (simp [q2] <;> omega) | (exfalso; simp at q2; omega)) stsub_nil)
        · refine JL_guard rfl rfl q2 ?_
          refine JL_pd rfl (det_move rfl) ?_
          refine JL_guard rfl rfl q2 ?_
          refine JL_step rfl rfl rfl (jo_callv rfl rfl Try.call51 rfl (within_j _ _ _)) fun _ => ?_
          refine JL_guard rfl rfl q2 ?_
          refine JL_pd rfl (det_not rfl) ?_
          refine JL_pd rfl (det_pick_f rfl q2 rfl) ?_
          refine JL_pd rfl (det_assign rfl) ?_
          exact hj (by kernel_rfl) (stsub_consB rfl (by clear hj; first | rfl | (simp only [q2, Bool.and_true, Bool.true_and, Bool.false_and, Bool.and_false, Bool.or_true, Bool.true_or, Bool.or_false, Bool.false_or, Bool.not_true, Bool.not_false]; done) | (simp [q2]; done) | (simp at q2; done) | (simp [q2] <;> omega) | (exfalso; simp at q2; omega)) stsub_nil)
      refine JL_nil ?_
      refine JE_seq ?_
      -- stop: cond
      refine JC_cond rfl (fun h3 => ?_) (fun h3 => ?_)
      · rw [hr] at h3; cases h3
      · refine JC_skip ?_
        refine JE_block ?_
        refine JE_seq ?_
        refine JC_seq ?_
        refine JC_region ?_
        refine JL_dt rfl (det_loadKA rfl Try.isAgg34 Try.sizeOf34 rfl rfl) ?_
        -- stop: op  1 t45 := (call (Call (value f59) (t44) (34)))   <0>   58
        refine JL_step rfl rfl rfl (jo_call rfl rfl Try.call59 rfl (hall_j m a (by omega))) fun ⟨b, mb⟩ => ?_
        refine JL_pd rfl (det_assign rfl) ?_
        refine JL_nil ?_
        refine JE_seq ?_
        refine JC_seq ?_
        refine JC_region ?_
        refine JL_step rfl rfl rfl (jo_makeMap ekN evB) fun b46 => ?_
        refine JL_pd rfl (det_build rfl (bld_122)) ?_
        refine JL_pd rfl (det_build rfl (bld_43_0 _)) ?_
        refine JL_pd rfl (det_build rfl (bld_103_0 _ _ _)) ?_
        refine JL_step0 rfl rfl (jo_mapUpdate (ek := ekN) (ev := evB) (⟨0, 0⟩ : Nt) begW (.inr rfl) rfl rfl rfl goodN Try.underlying123) fun _ => ?_
        refine JL_pd rfl (det_move rfl) ?_
        refine JL_step rfl rfl rfl (jo_alloc0 Try.zeroValue123 rfl) fun b11 => ?_
        refine JL_step0 rfl rfl (jo_store rfl rfl rfl (by first | (simp only [splice_norm]; done) | (simp only [splice_norm]; rfl) | rfl) Try.sizeOf123 rfl rfl) fun _ => ?_
        refine JL_nil ?_
        refine JE_seq ?_
        refine JC_seq ?_
        refine JC_seq ?_
        refine JC_region ?_
        refine JL_dt rfl (det_loadK rfl Try.isAgg23 rfl) ?_
        refine JL_pd rfl (det_len rfl Try.runUnderlying23) ?_
        refine JL_pd rfl (det_add rfl rfl ⟨by omega, by omega⟩) ?_
        refine JL_pd rfl (det_move rfl) ?_
        refine JL_nil ?_
        refine JE_seq ?_
        refine JC_block ?_
        -- stop: loop
        refine JC_keep b11 noFp ?_
        refine JC_keep b4 noFp ?_
        refine JC_loopF (γ := Nat × Kn) (fun q => q.1 ≤ log.length + 1 ∧ EndI m log lost q.2 q.1 0) (fun q => [(54, I q.1)]) (fun q => [mp b46 ekN evB q.2]) (fun q => log.length + 1 - q.1) (0, upd (fun _ => none) ⟨0, 0⟩ begW) ⟨Nat.zero_le _, EndI.begin m log lost⟩ (stsub_consI rfl rfl stsub_nil) (ht_cons ht_nil) ?_
        rintro ⟨i, A⟩ ⟨hi, hA⟩ K hK
        dsimp only [List.cons_append, List.nil_append] at hi hA ⊢
        refine JC_seq ?_
        refine JC_region ?_
        refine JL_pd rfl (det_lss rfl rfl) ?_
        refine JL_nil ?_
        refine JE_seq ?_
        refine JC_seq ?_
        -- stop: cond
        refine JC_if rfl (fun h4 => ?_) (fun h4 => ?_)
        · have hi2 : i < log.length + 1 := by omega
          refine JC_skip ?_
          refine JE_seq ?_
          refine JC_seq ?_
          refine JC_block ?_
          refine JC_seq ?_
          refine JC_region ?_
          refine JL_pd rfl (det_move rfl) ?_
          refine JL_step rfl rfl rfl (jo_alloc0 Try.zeroValue3 rfl) fun b12 => ?_
          refine JL_step0 rfl rfl (jo_store rfl rfl rfl (by first | (simp only [splice_norm]; done) | (simp only [splice_norm]; rfl) | rfl) Try.sizeOf3 rfl rfl) fun _ => ?_
          refine JL_nil ?_
          refine JE_seq ?_
          refine JC_seq ?_
          refine JC_region ?_
          refine JL_pd rfl (det_move rfl) ?_
          refine JL_pd rfl (det_add rfl rfl ⟨by omega, by omega⟩) ?_
          refine JL_pd rfl (det_move rfl) ?_
          refine JL_nil ?_
          refine JE_seq ?_
          refine JC_block ?_
          -- stop: loop
          refine JC_keep b12 noFp ?_
          refine JC_loopF (γ := Nat × Kn) (fun q => q.1 ≤ lost + 1 ∧ EndI m log lost q.2 i q.1) (fun q => [(59, I q.1)]) (fun q => [mp b46 ekN evB q.2]) (fun q => lost + 1 - q.1) (0, A) ⟨Nat.zero_le _, hA⟩ (stsub_consI rfl rfl stsub_nil) (ht_cons ht_nil) ?_
          rintro ⟨k, A1⟩ ⟨hk, hA1⟩ K2 hK2
          dsimp only [List.cons_append, List.nil_append] at hk hA1 ⊢
          refine JC_seq ?_
          refine JC_region ?_
          refine JL_pd rfl (det_lss rfl rfl) ?_
          refine JL_nil ?_
          refine JE_seq ?_
          refine JC_seq ?_
          -- stop: cond
          refine JC_if rfl (fun h5 => ?_) (fun h5 => ?_)
          · have hk2 : k ≤ lost := by omega
            have hmem := hA1.stands V hk2
            refine JC_skip ?_
            refine JE_seq ?_
            refine JC_seq ?_
            refine JC_block ?_
            refine JC_seq ?_
            refine JC_region ?_
            refine JL_pd rfl (det_move rfl) ?_
            refine JL_step rfl rfl rfl (jo_alloc0 Try.zeroValue3 rfl) fun b13 => ?_
            refine JL_step0 rfl rfl (jo_store rfl rfl rfl (by first | (simp only [splice_norm]; done) | (simp only [splice_norm]; rfl) | rfl) Try.sizeOf3 rfl rfl) fun _ => ?_
            refine JL_nil ?_
            refine JE_seq ?_
            refine JC_seq ?_
            refine JC_region ?_
            refine JL_dt rfl (det_loadK rfl Try.isAgg123 rfl) ?_
            refine JL_dt rfl (det_loadK rfl Try.isAgg3 rfl) ?_
            refine JL_dt rfl (det_loadK rfl Try.isAgg3 rfl) ?_
            refine JL_pd rfl (det_build rfl (bld_122_0_1 _ _)) ?_
            refine JL_dt rfl (det_lookup1D (ek := ekN) (ev := evB) (fun _ => false) (⟨i, k⟩ : Nt) rfl rfl goodN Try.underlying123 zeroB) ?_
            -- stop: op  5 t67 := (call (Call (value f61) (t66) (103)))   <4>   62
            refine JL_step rfl rfl rfl (jo_call rfl rfl Try.call61 rfl (wstands_j (getK A1 i k))) fun ⟨la, lc⟩ => ?_
            refine JL_pd rfl (det_len rfl Try.runUnderlying36) ?_
            refine JL_pd rfl (det_move rfl) ?_
            refine JL_nil ?_
            refine JE_seq ?_
            refine JC_block ?_
            -- stop: loop
            have hLl : (standsW (getK A1 i k)).length ≤ 24 := standsN_len _ _
            generalize standsW (getK A1 i k) = L at hmem hLl
            refine JC_keep b13 noFp ?_
            refine JC_loopF (γ := Nat × Kn) (fun q => q.1 ≤ L.length ∧ EndJ m log lost q.2 i k L q.1 0 []) (fun q => [(69, I q.1)]) (fun q => [mp b46 ekN evB q.2]) (fun q => L.length - q.1) (0, A1) ⟨Nat.zero_le _, hA1.start L⟩ (stsub_consI rfl rfl stsub_nil) (ht_cons ht_nil) ?_
            rintro ⟨q, A2⟩ ⟨hq, hA2⟩ K3 hK3
            dsimp only [List.cons_append, List.nil_append] at hq hA2 ⊢
            refine JC_seq ?_
            refine JC_region ?_
            refine JL_pd rfl (det_lss rfl rfl) ?_
            refine JL_nil ?_
            refine JE_seq ?_
            refine JC_seq ?_
            -- stop: cond
            refine JC_if rfl (fun h6 => ?_) (fun h6 => ?_)
            · have hq2 : q < L.length := by omega
              have hs : L[q]? = some L[q] := List.getElem?_eq_getElem hq2
              have hE := (hmem _).1 (List.getElem_mem hq2)
              have hin := hE.inM V
              generalize hse : L[q] = s at hs hE hin
              refine JC_skip ?_
              refine JE_seq ?_
              refine JC_seq ?_
              refine JC_block ?_
              refine JC_seq ?_
              refine JC_region ?_
              refine JL_dt rfl (det_indexAddr rfl rfl (by first | rfl | omega) (by first | assumption | omega | decide) Try.runUnderlying36 Try.sizeOf77) ?_
              refine JL_dt rfl (det_loadEA (vs := [I s.st, I s.sp]) rfl (by first | assumption | omega | decide) Try.isAgg77 Try.sizeOf77 rfl (by rw [← hse]; rfl) rfl) ?_
              refine JL_step rfl rfl rfl (jo_alloc0 Try.zeroValue77 rfl) fun b15 => ?_
              refine JL_step0 rfl rfl (jo_store rfl rfl rfl (by first | (simp only [splice_norm]; done) | (simp only [splice_norm]; rfl) | rfl) Try.sizeOf77 rfl rfl) fun _ => ?_
              refine JL_nil ?_
              refine JE_seq ?_
              refine JC_seq ?_
              refine JC_region ?_
              refine JL_pd rfl (det_move rfl) ?_
              refine JL_nil ?_
              refine JE_seq ?_
              refine JC_block ?_
              -- stop: loop
              refine JC_keep b15 noFp ?_
              refine JC_loopF (γ := Nat × Kn) (fun r => r.1 ≤ 8 ∧ EndJ m log lost r.2 i k L q r.1 []) (fun r => [(73, I r.1)]) (fun r => [mp b46 ekN evB r.2]) (fun r => 8 - r.1) (0, A2) ⟨Nat.zero_le _, hA2⟩ (stsub_consI rfl rfl stsub_nil) (ht_cons ht_nil) ?_
              rintro ⟨g, A3⟩ ⟨hg, hA3⟩ K4 hK4
              dsimp only [List.cons_append, List.nil_append] at hg hA3 ⊢
              refine JC_seq ?_
              refine JC_region ?_
              refine JL_pd rfl (det_lss rfl rfl) ?_
              refine JL_nil ?_
              refine JE_seq ?_
              refine JC_seq ?_
              -- stop: cond
              refine JC_if rfl (fun h7 => ?_) (fun h7 => ?_)
              · have hg2 : g < 8 := by omega
                refine JC_skip ?_
                refine JE_seq ?_
                refine JC_seq ?_
                refine JC_block ?_
                refine JC_seq ?_
                refine JC_region ?_
                refine JL_pd rfl (det_move rfl) ?_
                refine JL_step rfl rfl rfl (jo_alloc0 Try.zeroValue3 rfl) fun b16 => ?_
                refine JL_step0 rfl rfl (jo_store rfl rfl rfl (by first | (simp only [splice_norm]; done) | (simp only [splice_norm]; rfl) | rfl) Try.sizeOf3 rfl rfl) fun _ => ?_
                refine JL_nil ?_
                refine JE_seq ?_
                refine JC_seq ?_
                refine JC_region ?_
                refine JL_pd rfl (det_move rfl) ?_
                refine JL_dt rfl (det_loadKA rfl Try.isAgg77 Try.sizeOf77 rfl rfl) ?_
                refine JL_dt rfl (det_loadK rfl Try.isAgg3 rfl) ?_
                refine JL_step rfl rfl rfl (jo_call rfl rfl Try.call74 rfl (next_j b s _)) fun x79 => ?_
                refine JL_nil ?_
                refine JE_seq ?_
                refine JC_block ?_
                -- stop: rangeFunc
                have hit := next_it m a s (g : Int) b mb x79.1 x79.2.1 x79.2.2 (by omega) (by obtain ⟨_, _, q1, q2⟩ := hin; omega)
                refine JC_keep b16 noFp ?_
                refine JC_rangeI (γ := Kn) (β := Nat) rfl rfl rfl rfl Try.call93 hit (perm1 (mp b46 ekN evB A3)) (fun w _ h => Knows.know w h) (fun _ => rfl) ?_
                  (fun p A => EndJ m log lost A i k L q g p) (fun _ _ _ => False) (fun A => [mp b46 ekN evB A]) A3 hA3 rfl
                  (fun x t => [(17, pt t), (12, pt b12), (4, pt b4), (16, pt b16), (11, pt b11), (13, pt b13)]) (fun x t => [bx t [I x.st, I x.sp]]) ?_ ?_ ?_ ?_
                · show ∀ p ∈ [80], p < 164
                  decide
                · intro l' x W K0 hK0
                  refine JC_region ?_
                  refine JL_step rfl rfl rfl (jo_alloc0 Try.zeroValue77 rfl) fun b17 => ?_
                  refine JL_step0 rfl rfl (jo_store rfl rfl rfl (by first | (simp only [splice_norm]; done) | (simp only [splice_norm]; rfl) | rfl) Try.sizeOf77 rfl rfl) fun _ => ?_
                  refine JL_nil ?_
                  -- stop: end
                  exact JE_asg (hK0 b17) (stsub_cons rfl (stsub_cons rfl (stsub_cons rfl (stsub_cons rfl (stsub_cons rfl (stsub_cons rfl stsub_nil)))))) (hsub_cons hsub_nil) (fun _ h => trivial)
                · rintro l' p x A4 t W K1 QX hA4 hpx hK1 _
                  dsimp only [List.cons_append, List.nil_append]
                  have hxm : x ∈ nextL m m.locks s (g : Int) := hpx.subset (by simp)
                  have hnew := hA4.add V hg2 hs hE hxm
                  have hxin := next_in V hin hxm
                  have hix := (hxin.ix V).1
                  obtain ⟨p1, p2, p3, p4⟩ := hxin
                  have hoff : 0 + x.st.toNat * 3 + x.sp.toNat * 1 = ix x := by unfold ix; omega
                  refine JC_block ?_
                  refine JC_seq ?_
                  refine JC_seq ?_
                  refine JC_draw [] (by kernel_rfl) ?_
                  refine JA_dt (i := 0) rfl (by kernel_rfl) (by kernel_rfl) rfl rfl (det_loadK rfl Try.isAgg3 rfl) ?_
                  refine JA_dt (i := 1) rfl (by kernel_rfl) (by kernel_rfl) rfl rfl (det_loadK rfl Try.isAgg23 rfl) ?_
                  refine JA_pd (i := 2) rfl (by kernel_rfl) rfl rfl (det_len rfl Try.runUnderlying23) ?_
                  refine JA_pd (i := 3) rfl (by kernel_rfl) rfl rfl (det_lss rfl rfl) ?_
                  refine JA_pd (i := 4) rfl (by kernel_rfl) rfl rfl (det_move rfl) ?_
                  -- stop: guard 4
                  refine JA_split (d0 := 85) rfl (fun k1 => ?_) (fun k1 => ?_)
                  · have hil : i < log.length := by simpa using k1
                    refine JA_gdt (i := 5) rfl (by kernel_rfl) (by kernel_rfl) rfl rfl rfl rfl k1 (det_loadK rfl Try.isAgg23 rfl) ?_
                    refine JA_gdt (i := 6) rfl (by kernel_rfl) (by kernel_rfl) rfl rfl rfl rfl k1 (det_loadK rfl Try.isAgg3 rfl) ?_
                    refine JA_gdt (i := 7) rfl (by kernel_rfl) (by kernel_rfl) rfl rfl rfl rfl k1 (det_indexAddr rfl rfl (by first | rfl | omega) (by first | assumption | omega | decide) Try.runUnderlying23 Try.sizeOf3) ?_
                    refine JA_gdt (i := 8) rfl (by kernel_rfl) (by kernel_rfl) rfl rfl rfl rfl k1 (det_loadE rfl (by first | assumption | omega | decide) Try.isAgg3 rfl rfl) ?_
                    refine JA_gdt (i := 9) rfl (by kernel_rfl) (by kernel_rfl) rfl rfl rfl rfl k1 (det_loadK rfl Try.isAgg3 rfl) ?_
                    refine JA_gpd (i := 10) rfl (by kernel_rfl) rfl rfl rfl rfl k1 (det_eql rfl rfl) ?_
                    refine JA_pd (i := 11) rfl (by kernel_rfl) rfl rfl (det_pick_t rfl k1 rfl) ?_
                    refine JA_done (by kernel_rfl) ?_
                    refine JE_seq ?_
                    -- stop: cond
                    refine JC_cond rfl (fun k2 => ?_) (fun k2 => ?_)
                    · have hlg : log[i]? = some (g : Int) := by rw [List.getElem?_eq_getElem hil]; congr 1; simpa using k2
                      refine JC_seq ?_
                      refine JC_region ?_
                      refine JL_dt rfl (det_loadK rfl Try.isAgg123 rfl) ?_
                      refine JL_dt rfl (det_loadK rfl Try.isAgg3 rfl) ?_
                      refine JL_pd rfl (det_add rfl rfl ⟨by omega, by omega⟩) ?_
                      refine JL_dt rfl (det_loadK rfl Try.isAgg3 rfl) ?_
                      refine JL_pd rfl (det_build rfl (bld_122_0_1 _ _)) ?_
                      refine JL_dt rfl (det_lookup1D (ek := ekN) (ev := evB) (fun _ => false) (⟨(i : Int) + 1, k⟩ : Nt) rfl rfl goodN Try.underlying123 zeroB) ?_
                      refine JL_step rfl rfl rfl (jo_alloc0 Try.zeroValue103 rfl) fun b18 => ?_
                      refine JL_step0 rfl rfl (jo_store (vs := encW 24 (getK A4 (i + 1) k)) rfl rfl rfl (splice_whole (by rw [encW_len]; rfl)) Try.sizeOf103 (Nat.ble_eq_true_of_le (by rw [encW_len]; decide)) (encW_cells 24 _)) fun _ => ?_
                      refine JL_nil ?_
                      refine JE_seq ?_
                      refine JC_seq ?_
                      refine JC_draw [6] (by kernel_rfl) ?_
                      refine JA_pd (i := 0) rfl (by kernel_rfl) rfl rfl (det_fieldAddr rfl fo_77_0) ?_
                      refine JA_dt (i := 1) rfl (by kernel_rfl) (by kernel_rfl) rfl rfl (det_loadK rfl Try.isAgg3 rfl) ?_
                      refine JA_pd (i := 2) rfl (by kernel_rfl) rfl rfl (det_fieldAddr rfl fo_77_1) ?_
                      refine JA_dt (i := 3) rfl (by kernel_rfl) (by kernel_rfl) rfl rfl (det_loadK rfl Try.isAgg3 rfl) ?_
                      refine JA_pd (i := 4) rfl (by kernel_rfl) rfl rfl (det_indexArr (i := x.st.toNat) rfl rfl (by omega) (by omega) Try.runUnderlying103 Try.sizeOf43) ?_
                      refine JA_pd (i := 5) rfl (by kernel_rfl) rfl rfl (det_indexArr (i := x.sp.toNat) rfl rfl (by omega) (by omega) Try.runUnderlying43 Try.sizeOf4) ?_
                      refine JA_tail (i := 6) (by kernel_rfl) rfl rfl rfl rfl (jo_store (vs := [.bool true]) (cs := encW 24 (getK A4 (i + 1) k)) (cs' := encW 24 (updW (getK A4 (i + 1) k) (ix x) true)) rfl rfl rfl (by rw [hoff]; exact encW_set 24 _ (ix x) true) Try.sizeOf4 (Nat.ble_eq_true_of_le (by rw [encW_len, hoff]; exact hix)) rfl) fun _ => ?_
                      refine JT_done (by kernel_rfl) ?_
                      refine JE_seq ?_
                      refine JC_region ?_
                      refine JL_dt rfl (det_loadK rfl Try.isAgg123 rfl) ?_
                      refine JL_dt rfl (det_loadK rfl Try.isAgg3 rfl) ?_
                      refine JL_pd rfl (det_add rfl rfl ⟨by omega, by omega⟩) ?_
                      refine JL_dt rfl (det_loadK rfl Try.isAgg3 rfl) ?_
                      refine JL_pd rfl (det_build rfl (bld_122_0_1 _ _)) ?_
                      refine JL_dt rfl (det_loadKA (vs := encW 24 (updW (getK A4 (i + 1) k) (ix x) true)) rfl Try.isAgg103 Try.sizeOf103 (by rw [List.drop_zero]; exact List.take_of_length_le (by rw [encW_len]; decide)) (encW_len 24 _)) ?_
                      refine JL_step0 rfl rfl (jo_mapUpdate (ek := ekN) (ev := evB) (⟨(i : Int) + 1, k⟩ : Nt) (updW (getK A4 (i + 1) k) (ix x) true) (.inl rfl) rfl rfl rfl goodN Try.underlying123) fun _ => ?_
                      refine JL_nil ?_
                      refine JE_seq ?_
                      refine JC_seq ?_
                      refine JC_region ?_
                      refine JL_dt rfl (det_loadK rfl Try.isAgg123 rfl) ?_
                      refine JL_dt rfl (det_loadK rfl Try.isAgg3 rfl) ?_
                      refine JL_dt rfl (det_loadK rfl Try.isAgg3 rfl) ?_
                      refine JL_pd rfl (det_add rfl rfl ⟨by omega, by omega⟩) ?_
                      refine JL_pd rfl (det_build rfl (bld_122_0_1 _ _)) ?_
                      refine JL_dt rfl (det_lookup1D (ek := ekN) (ev := evB) (fun _ => false) (⟨i, (k : Int) + 1⟩ : Nt) rfl rfl goodN Try.underlying123 zeroB) ?_
                      refine JL_step rfl rfl rfl (jo_alloc0 Try.zeroValue103 rfl) fun b19 => ?_
                      refine JL_step0 rfl rfl (jo_store (vs := encW 24 (getK (setK A4 (i + 1) k (ix x)) i (k + 1))) rfl rfl rfl (splice_whole (by rw [encW_len]; rfl)) Try.sizeOf103 (Nat.ble_eq_true_of_le (by rw [encW_len]; decide)) (encW_cells 24 _)) fun _ => ?_
                      refine JL_nil ?_
                      refine JE_seq ?_
                      refine JC_seq ?_
                      refine JC_draw [6] (by kernel_rfl) ?_
                      refine JA_pd (i := 0) rfl (by kernel_rfl) rfl rfl (det_fieldAddr rfl fo_77_0) ?_
                      refine JA_dt (i := 1) rfl (by kernel_rfl) (by kernel_rfl) rfl rfl (det_loadK rfl Try.isAgg3 rfl) ?_
                      refine JA_pd (i := 2) rfl (by kernel_rfl) rfl rfl (det_fieldAddr rfl fo_77_1) ?_
                      refine JA_dt (i := 3) rfl (by kernel_rfl) (by kernel_rfl) rfl rfl (det_loadK rfl Try.isAgg3 rfl) ?_
                      refine JA_pd (i := 4) rfl (by kernel_rfl) rfl rfl (det_indexArr (i := x.st.toNat) rfl rfl (by omega) (by omega) Try.runUnderlying103 Try.sizeOf43) ?_
                      refine JA_pd (i := 5) rfl (by kernel_rfl) rfl rfl (det_indexArr (i := x.sp.toNat) rfl rfl (by omega) (by omega) Try.runUnderlying43 Try.sizeOf4) ?_
                      refine JA_tail (i := 6) (by kernel_rfl) rfl rfl rfl rfl (jo_store (vs := [.bool true]) (cs := encW 24 (getK (setK A4 (i + 1) k (ix x)) i (k + 1))) (cs' := encW 24 (updW (getK (setK A4 (i + 1) k (ix x)) i (k + 1)) (ix x) true)) rfl rfl rfl (by rw [hoff]; exact encW_set 24 _ (ix x) true) Try.sizeOf4 (Nat.ble_eq_true_of_le (by rw [encW_len, hoff]; exact hix)) rfl) fun _ => ?_
                      refine JT_done (by kernel_rfl) ?_
                      refine JE_seq ?_
                      refine JC_region ?_
                      refine JL_dt rfl (det_loadK rfl Try.isAgg123 rfl) ?_
                      refine JL_dt rfl (det_loadK rfl Try.isAgg3 rfl) ?_
                      refine JL_dt rfl (det_loadK rfl Try.isAgg3 rfl) ?_
                      refine JL_pd rfl (det_add rfl rfl ⟨by omega, by omega⟩) ?_
                      refine JL_pd rfl (det_build rfl (bld_122_0_1 _ _)) ?_
                      refine JL_dt rfl (det_loadKA (vs := encW 24 (updW (getK (setK A4 (i + 1) k (ix x)) i (k + 1)) (ix x) true)) rfl Try.isAgg103 Try.sizeOf103 (by rw [List.drop_zero]; exact List.take_of_length_le (by rw [encW_len]; decide)) (encW_len 24 _)) ?_
                      refine JL_step0 rfl rfl (jo_mapUpdate (ek := ekN) (ev := evB) (⟨i, (k : Int) + 1⟩ : Nt) (updW (getK (setK A4 (i + 1) k (ix x)) i (k + 1)) (ix x) true) (.inl rfl) rfl rfl rfl goodN Try.underlying123) fun _ => ?_
                      refine JL_nil ?_
                      refine JE_block ?_
                      -- stop: end
                      refine JE_next (fun st' R' a' W' => hK1 (addK log A4 i k (g : Int) x) hnew st' R' a' W') ⟨_, ht_mp (by unfold addK; rw [if_pos hlg]; rfl) ht_nil⟩
                    · have hlg : ¬ log[i]? = some (g : Int) := by rw [List.getElem?_eq_getElem hil]; intro h; have h' := Option.some.inj h; simp [h'] at k2
                      refine JC_skip ?_
                      refine JE_seq ?_
                      refine JC_seq ?_
                      refine JC_region ?_
                      refine JL_dt rfl (det_loadK rfl Try.isAgg123 rfl) ?_
                      refine JL_dt rfl (det_loadK rfl Try.isAgg3 rfl) ?_
                      refine JL_dt rfl (det_loadK rfl Try.isAgg3 rfl) ?_
                      refine JL_pd rfl (det_add rfl rfl ⟨by omega, by omega⟩) ?_
                      refine JL_pd rfl (det_build rfl (bld_122_0_1 _ _)) ?_
                      refine JL_dt rfl (det_lookup1D (ek := ekN) (ev := evB) (fun _ => false) (⟨i, (k : Int) + 1⟩ : Nt) rfl rfl goodN Try.underlying123 zeroB) ?_
                      refine JL_step rfl rfl rfl (jo_alloc0 Try.zeroValue103 rfl) fun b19 => ?_
                      refine JL_step0 rfl rfl (jo_store (vs := encW 24 (getK A4 i (k + 1))) rfl rfl rfl (splice_whole (by rw [encW_len]; rfl)) Try.sizeOf103 (Nat.ble_eq_true_of_le (by rw [encW_len]; decide)) (encW_cells 24 _)) fun _ => ?_
                      refine JL_nil ?_
                      refine JE_seq ?_
                      refine JC_seq ?_
                      refine JC_draw [6] (by kernel_rfl) ?_
                      refine JA_pd (i := 0) rfl (by kernel_rfl) rfl rfl (det_fieldAddr rfl fo_77_0) ?_
                      refine JA_dt (i := 1) rfl (by kernel_rfl) (by kernel_rfl) rfl rfl (det_loadK rfl Try.isAgg3 rfl) ?_
                      refine JA_pd (i := 2) rfl (by kernel_rfl) rfl rfl (det_fieldAddr rfl fo_77_1) ?_
                      refine JA_dt (i := 3) rfl (by kernel_rfl) (by kernel_rfl) rfl rfl (det_loadK rfl Try.isAgg3 rfl) ?_
                      refine JA_pd (i := 4) rfl (by kernel_rfl) rfl rfl (det_indexArr (i := x.st.toNat) rfl rfl (by omega) (by omega) Try.runUnderlying103 Try.sizeOf43) ?_
                      refine JA_pd (i := 5) rfl (by kernel_rfl) rfl rfl (det_indexArr (i := x.sp.toNat) rfl rfl (by omega) (by omega) Try.runUnderlying43 Try.sizeOf4) ?_
                      refine JA_tail (i := 6) (by kernel_rfl) rfl rfl rfl rfl (jo_store (vs := [.bool true]) (cs := encW 24 (getK A4 i (k + 1))) (cs' := encW 24 (updW (getK A4 i (k + 1)) (ix x) true)) rfl rfl rfl (by rw [hoff]; exact encW_set 24 _ (ix x) true) Try.sizeOf4 (Nat.ble_eq_true_of_le (by rw [encW_len, hoff]; exact hix)) rfl) fun _ => ?_
                      refine JT_done (by kernel_rfl) ?_
                      refine JE_seq ?_
                      refine JC_region ?_
                      refine JL_dt rfl (det_loadK rfl Try.isAgg123 rfl) ?_
                      refine JL_dt rfl (det_loadK rfl Try.isAgg3 rfl) ?_
                      refine JL_dt rfl (det_loadK rfl Try.isAgg3 rfl) ?_
                      refine JL_pd rfl (det_add rfl rfl ⟨by omega, by omega⟩) ?_
                      refine JL_pd rfl (det_build rfl (bld_122_0_1 _ _)) ?_
                      refine JL_dt rfl (det_loadKA (vs := encW 24 (updW (getK A4 i (k + 1)) (ix x) true)) rfl Try.isAgg103 Try.sizeOf103 (by rw [List.drop_zero]; exact List.take_of_length_le (by rw [encW_len]; decide)) (encW_len 24 _)) ?_
                      refine JL_step0 rfl rfl (jo_mapUpdate (ek := ekN) (ev := evB) (⟨i, (k : Int) + 1⟩ : Nt) (updW (getK A4 i (k + 1)) (ix x) true) (.inl rfl) rfl rfl rfl goodN Try.underlying123) fun _ => ?_
                      refine JL_nil ?_
                      refine JE_block ?_
                      -- stop: end
                      refine JE_next (fun st' R' a' W' => hK1 (addK log A4 i k (g : Int) x) hnew st' R' a' W') ⟨_, ht_mp (by unfold addK; rw [if_neg hlg]; rfl) ht_nil⟩
                  · have hlg : ¬ log[i]? = some (g : Int) := by rw [List.getElem?_eq_none (by simpa using k1)]; exact fun h => by cases h
                    refine JA_skip (i := 5) rfl (by kernel_rfl) rfl rfl rfl rfl k1 ?_
                    refine JA_skip (i := 6) rfl (by kernel_rfl) rfl rfl rfl rfl k1 ?_
                    refine JA_skip (i := 7) rfl (by kernel_rfl) rfl rfl rfl rfl k1 ?_
                    refine JA_skip (i := 8) rfl (by kernel_rfl) rfl rfl rfl rfl k1 ?_
                    refine JA_skip (i := 9) rfl (by kernel_rfl) rfl rfl rfl rfl k1 ?_
                    refine JA_skip (i := 10) rfl (by kernel_rfl) rfl rfl rfl rfl k1 ?_
                    refine JA_pd (i := 11) rfl (by kernel_rfl) rfl rfl (det_pick_f rfl k1 rfl) ?_
                    refine JA_done (by kernel_rfl) ?_
                    refine JE_seq ?_
                    -- stop: cond
                    refine JC_cond rfl (fun k2 => ?_) (fun k2 => ?_)
                    · cases k2
                    · refine JC_skip ?_
                      refine JE_seq ?_
                      refine JC_seq ?_
                      refine JC_region ?_
                      refine JL_dt rfl (det_loadK rfl Try.isAgg123 rfl) ?_
                      refine JL_dt rfl (det_loadK rfl Try.isAgg3 rfl) ?_
                      refine JL_dt rfl (det_loadK rfl Try.isAgg3 rfl) ?_
                      refine JL_pd rfl (det_add rfl rfl ⟨by omega, by omega⟩) ?_
                      refine JL_pd rfl (det_build rfl (bld_122_0_1 _ _)) ?_
                      refine JL_dt rfl (det_lookup1D (ek := ekN) (ev := evB) (fun _ => false) (⟨i, (k : Int) + 1⟩ : Nt) rfl rfl goodN Try.underlying123 zeroB) ?_
                      refine JL_step rfl rfl rfl (jo_alloc0 Try.zeroValue103 rfl) fun b19 => ?_
                      refine JL_step0 rfl rfl (jo_store (vs := encW 24 (getK A4 i (k + 1))) rfl rfl rfl (splice_whole (by rw [encW_len]; rfl)) Try.sizeOf103 (Nat.ble_eq_true_of_le (by rw [encW_len]; decide)) (encW_cells 24 _)) fun _ => ?_
                      refine JL_nil ?_
                      refine JE_seq ?_
                      refine JC_seq ?_
                      refine JC_draw [6] (by kernel_rfl) ?_
                      refine JA_pd (i := 0) rfl (by kernel_rfl) rfl rfl (det_fieldAddr rfl fo_77_0) ?_
                      refine JA_dt (i := 1) rfl (by kernel_rfl) (by kernel_rfl) rfl rfl (det_loadK rfl Try.isAgg3 rfl) ?_
                      refine JA_pd (i := 2) rfl (by kernel_rfl) rfl rfl (det_fieldAddr rfl fo_77_1) ?_
                      refine JA_dt (i := 3) rfl (by kernel_rfl) (by kernel_rfl) rfl rfl (det_loadK rfl Try.isAgg3 rfl) ?_
                      refine JA_pd (i := 4) rfl (by kernel_rfl) rfl rfl (det_indexArr (i := x.st.toNat) rfl rfl (by omega) (by omega) Try.runUnderlying103 Try.sizeOf43) ?_
                      refine JA_pd (i := 5) rfl (by kernel_rfl) rfl rfl (det_indexArr (i := x.sp.toNat) rfl rfl (by omega) (by omega) Try.runUnderlying43 Try.sizeOf4) ?_
                      refine JA_tail (i := 6) (by kernel_rfl) rfl rfl rfl rfl (jo_store (vs := [.bool true]) (cs := encW 24 (getK A4 i (k + 1))) (cs' := encW 24 (updW (getK A4 i (k + 1)) (ix x) true)) rfl rfl rfl (by rw [hoff]; exact encW_set 24 _ (ix x) true) Try.sizeOf4 (Nat.ble_eq_true_of_le (by rw [encW_len, hoff]; exact hix)) rfl) fun _ => ?_
                      refine JT_done (by kernel_rfl) ?_
                      refine JE_seq ?_
                      refine JC_region ?_
                      refine JL_dt rfl (det_loadK rfl Try.isAgg123 rfl) ?_
                      refine JL_dt rfl (det_loadK rfl Try.isAgg3 rfl) ?_
                      refine JL_dt rfl (det_loadK rfl Try.isAgg3 rfl) ?_
                      refine JL_pd rfl (det_add rfl rfl ⟨by omega, by omega⟩) ?_
                      refine JL_pd rfl (det_build rfl (bld_122_0_1 _ _)) ?_
                      refine JL_dt rfl (det_loadKA (vs := encW 24 (updW (getK A4 i (k + 1)) (ix x) true)) rfl Try.isAgg103 Try.sizeOf103 (by rw [List.drop_zero]; exact List.take_of_length_le (by rw [encW_len]; decide)) (encW_len 24 _)) ?_
                      refine JL_step0 rfl rfl (jo_mapUpdate (ek := ekN) (ev := evB) (⟨i, (k : Int) + 1⟩ : Nt) (updW (getK A4 i (k + 1)) (ix x) true) (.inl rfl) rfl rfl rfl goodN Try.underlying123) fun _ => ?_
                      refine JL_nil ?_
                      refine JE_block ?_
                      -- stop: end
                      refine JE_next (fun st' R' a' W' => hK1 (addK log A4 i k (g : Int) x) hnew st' R' a' W') ⟨_, ht_mp (by unfold addK; rw [if_neg hlg]; rfl) ht_nil⟩
                · rintro A4 hA4
                  refine JE_block ?_
                  refine JE_block ?_
                  refine JE_seq ?_
                  refine JC_region ?_
                  refine JL_pd rfl (det_add rfl rfl ⟨by omega, by omega⟩) ?_
                  refine JL_pd rfl (det_move rfl) ?_
                  refine JL_nil ?_
                  -- stop: end
                  refine JE_roundF hK4 (g + 1, A4) ⟨by simp only; omega, hA4.next hs⟩ (by simp only; omega) (stsub_consI rfl (by simp only; omega) stsub_nil) (ht_cons ht_nil)
                · rintro cd p w3 _ h
                  exact h.elim
              · obtain rfl : g = 8 := by omega
                refine JC_exit ?_
                refine JE_seq_exit ?_
                refine JE_then_exit ?_
                refine JE_block_here ?_
                refine JE_block ?_
                refine JE_seq ?_
                refine JC_region ?_
                refine JL_pd rfl (det_add rfl rfl ⟨by omega, by omega⟩) ?_
                refine JL_pd rfl (det_move rfl) ?_
                refine JL_nil ?_
                -- stop: end
                refine JE_roundF hK3 (q + 1, A3) ⟨by simp only; omega, hA3.after hlog hs⟩ (by simp only; omega) (stsub_consI rfl (by simp only; omega) stsub_nil) (ht_cons ht_nil)
            · obtain rfl : q = L.length := by omega
              refine JC_exit ?_
              refine JE_seq_exit ?_
              refine JE_then_exit ?_
              refine JE_block_here ?_
              refine JE_block ?_
              refine JE_seq ?_
              refine JC_region ?_
              refine JL_pd rfl (det_add rfl rfl ⟨by omega, by omega⟩) ?_
              refine JL_pd rfl (det_move rfl) ?_
              refine JL_nil ?_
              -- stop: end
              refine JE_roundF hK2 (k + 1, A2) ⟨by simp only; omega, hA2.col hmem⟩ (by simp only; omega) (stsub_consI rfl (by simp only; omega) stsub_nil) (ht_cons ht_nil)
          · obtain rfl : k = lost + 1 := by omega
            refine JC_exit ?_
            refine JE_seq_exit ?_
            refine JE_then_exit ?_
            refine JE_block_here ?_
            refine JE_block ?_
            refine JE_seq ?_
            refine JC_region ?_
            refine JL_pd rfl (det_add rfl rfl ⟨by omega, by omega⟩) ?_
            refine JL_pd rfl (det_move rfl) ?_
            refine JL_nil ?_
            -- stop: end
            refine JE_roundF hK (i + 1, A1) ⟨by simp only; omega, hA1.rowup⟩ (by simp only; omega) (stsub_consI rfl (by simp only; omega) stsub_nil) (ht_cons ht_nil)
        · obtain rfl : i = log.length + 1 := by omega
          have hlast := fun k hk => hA.last V (k := k) hk
          refine JC_exit ?_
          refine JE_seq_exit ?_
          refine JE_then_exit ?_
          refine JE_block_here ?_
          refine JE_seq ?_
          refine JC_seq ?_
          refine JC_region ?_
          refine JL_step rfl rfl rfl (jo_alloc0 Try.zeroValue103 rfl) fun b20 => ?_
          refine JL_nil ?_
          refine JE_seq ?_
          refine JC_seq ?_
          refine JC_seq ?_
          refine JC_region ?_
          refine JL_pd rfl (det_move rfl) ?_
          refine JL_pd rfl (det_add rfl rfl ⟨by omega, by omega⟩) ?_
          refine JL_pd rfl (det_move rfl) ?_
          refine JL_nil ?_
          refine JE_seq ?_
          refine JC_block ?_
          -- stop: loop
          refine JC_loopF (γ := Nat × (Nat → Bool)) (fun q => q.1 ≤ lost + 1 ∧ ∀ j, j < 24 → (q.2 j = true ↔ ∃ k, k < q.1 ∧ EndR m log log.length k (sdOf j))) (fun q => [(135, I q.1)]) (fun q => [bx b20 (encW 24 q.2)]) (fun q => lost + 1 - q.1) (0, fun _ => false) ⟨Nat.zero_le _, fun j _ => ⟨(fun h => by cases h), fun ⟨k, h, _⟩ => by omega⟩⟩ (stsub_consI rfl rfl stsub_nil) (ht_bx rfl ht_nil) ?_
          rintro ⟨k, W⟩ ⟨hk, hW⟩ K2 hK2
          dsimp only [List.cons_append, List.nil_append] at hk hW ⊢
          refine JC_seq ?_
          refine JC_region ?_
          refine JL_pd rfl (det_lss rfl rfl) ?_
          refine JL_nil ?_
          refine JE_seq ?_
          refine JC_seq ?_
          -- stop: cond
          refine JC_if rfl (fun h5 => ?_) (fun h5 => ?_)
          · have hk2 : k ≤ lost := by omega
            have hmem := hlast k hk2
            refine JC_skip ?_
            refine JE_seq ?_
            refine JC_seq ?_
            refine JC_block ?_
            refine JC_seq ?_
            refine JC_region ?_
            refine JL_pd rfl (det_move rfl) ?_
            refine JL_pd rfl (det_assign rfl) ?_
            refine JL_nil ?_
            refine JE_seq ?_
            refine JC_seq ?_
            refine JC_region ?_
            refine JL_dt rfl (det_loadK rfl Try.isAgg123 rfl) ?_
            refine JL_dt rfl (det_loadK rfl Try.isAgg23 rfl) ?_
            refine JL_pd rfl (det_len rfl Try.runUnderlying23) ?_
            refine JL_pd rfl (det_move rfl) ?_
            refine JL_pd rfl (det_build rfl (bld_122_0_1 _ _)) ?_
            refine JL_dt rfl (det_lookup1D (ek := ekN) (ev := evB) (fun _ => false) (⟨log.length, k⟩ : Nt) rfl rfl goodN Try.underlying123 zeroB) ?_
            -- stop: op  6 t144 := (call (Call (value f61) (t143) (103)))   <5>   80
            refine JL_step rfl rfl rfl (jo_call rfl rfl Try.call61 rfl (wstands_j (getK A log.length k))) fun ⟨la, lc⟩ => ?_
            refine JL_pd rfl (det_len rfl Try.runUnderlying36) ?_
            refine JL_pd rfl (det_move rfl) ?_
            refine JL_nil ?_
            refine JE_seq ?_
            refine JC_block ?_
            -- stop: loop
            have hLl : (standsW (getK A log.length k)).length ≤ 24 := standsN_len _ _
            generalize standsW (getK A log.length k) = L at hmem hLl
            refine JC_loopF (γ := Nat × (Nat → Bool)) (fun q => q.1 ≤ L.length ∧ ∀ j, j < 24 → (q.2 j = true ↔ W j = true ∨ sdOf j ∈ L.take q.1)) (fun q => [(146, I q.1)]) (fun q => [bx b20 (encW 24 q.2)]) (fun q => L.length - q.1) (0, W) ⟨Nat.zero_le _, fun j _ => by simp⟩ (stsub_consI rfl rfl stsub_nil) (ht_cons ht_nil) ?_
            rintro ⟨q, W2⟩ ⟨hq, hW2⟩ K3 hK3
            dsimp only [List.cons_append, List.nil_append] at hq hW2 ⊢
            refine JC_seq ?_
            refine JC_region ?_
            refine JL_pd rfl (det_lss rfl rfl) ?_
            refine JL_nil ?_
            refine JE_seq ?_
            refine JC_seq ?_
            -- stop: cond
            refine JC_if rfl (fun h6 => ?_) (fun h6 => ?_)
            · have hq2 : q < L.length := by omega
              have hE := (hmem _).1 (List.getElem_mem hq2)
              have hxin := hE.inM V
              have htk := take_snoc hq2
              generalize hse : L[q] = x at hE hxin htk
              have hixx := hxin.ix V
              have hix := hixx.1
              obtain ⟨p1, p2, p3, p4⟩ := hxin
              have hoff : 0 + x.st.toNat * 3 + x.sp.toNat * 1 = ix x := by unfold ix; omega
              refine JC_skip ?_
              refine JE_seq ?_
              refine JC_seq ?_
              refine JC_block ?_
              refine JC_seq ?_
              refine JC_region ?_
              refine JL_dt rfl (det_indexAddr rfl rfl (by first | rfl | omega) (by first | assumption | omega | decide) Try.runUnderlying36 Try.sizeOf77) ?_
              refine JL_dt rfl (det_loadEA (vs := [I x.st, I x.sp]) rfl (by first | assumption | omega | decide) Try.isAgg77 Try.sizeOf77 rfl (by rw [← hse]; rfl) rfl) ?_
              refine JL_step rfl rfl rfl (jo_alloc0 Try.zeroValue77 rfl) fun b23 => ?_
              refine JL_step0 rfl rfl (jo_store rfl rfl rfl (by first | (simp only [splice_norm]; done) | (simp only [splice_norm]; rfl) | rfl) Try.sizeOf77 rfl rfl) fun _ => ?_
              refine JL_nil ?_
              refine JE_seq ?_
              refine JC_draw [6] (by kernel_rfl) ?_
              refine JA_pd (i := 0) rfl (by kernel_rfl) rfl rfl (det_fieldAddr rfl fo_77_0) ?_
              refine JA_dt (i := 1) rfl (by kernel_rfl) (by kernel_rfl) rfl rfl (det_loadK rfl Try.isAgg3 rfl) ?_
              refine JA_pd (i := 2) rfl (by kernel_rfl) rfl rfl (det_fieldAddr rfl fo_77_1) ?_
              refine JA_dt (i := 3) rfl (by kernel_rfl) (by kernel_rfl) rfl rfl (det_loadK rfl Try.isAgg3 rfl) ?_
              refine JA_pd (i := 4) rfl (by kernel_rfl) rfl rfl (det_indexArr (i := x.st.toNat) rfl rfl (by omega) (by omega) Try.runUnderlying103 Try.sizeOf43) ?_
              refine JA_pd (i := 5) rfl (by kernel_rfl) rfl rfl (det_indexArr (i := x.sp.toNat) rfl rfl (by omega) (by omega) Try.runUnderlying43 Try.sizeOf4) ?_
              refine JA_tail (i := 6) (by kernel_rfl) rfl rfl rfl rfl (jo_store (vs := [.bool true]) (cs := encW 24 W2) (cs' := encW 24 (updW W2 (ix x) true)) rfl rfl rfl (by rw [hoff]; exact encW_set 24 _ (ix x) true) Try.sizeOf4 (Nat.ble_eq_true_of_le (by rw [encW_len, hoff]; exact hix)) rfl) fun _ => ?_
              refine JT_done (by kernel_rfl) ?_
              refine JE_block ?_
              refine JE_seq ?_
              refine JC_region ?_
              refine JL_pd rfl (det_add rfl rfl ⟨by omega, by omega⟩) ?_
              refine JL_pd rfl (det_move rfl) ?_
              refine JL_nil ?_
              -- stop: end
              refine JE_roundF hK3 (q + 1, updW W2 (ix x) true) ⟨by simp only; omega, fun j hj => ?_⟩ (by simp only; omega) (stsub_consI rfl (by simp only; omega) stsub_nil) (ht_cons ht_nil)
              show (if j = ix x then true else W2 j) = true ↔ W j = true ∨ sdOf j ∈ L.take (q + 1)
              rw [htk, List.mem_append, List.mem_singleton, ← or_assoc, ← hW2 j hj]
              by_cases e : j = ix x
              · subst e; rw [if_pos rfl]; simp [hixx.2]
              · rw [if_neg e]
                refine ⟨.inl, fun h => h.resolve_right fun h2 => e ?_⟩
                rw [← h2, ix_sd]
            · obtain rfl : q = L.length := by omega
              rw [List.take_length] at hW2
              refine JC_exit ?_
              refine JE_seq_exit ?_
              refine JE_then_exit ?_
              refine JE_block_here ?_
              refine JE_block ?_
              refine JE_seq ?_
              refine JC_region ?_
              refine JL_pd rfl (det_add rfl rfl ⟨by omega, by omega⟩) ?_
              refine JL_pd rfl (det_move rfl) ?_
              refine JL_nil ?_
              -- stop: end
              refine JE_roundF hK2 (k + 1, W2) ⟨by simp only; omega, fun j hj => ?_⟩ (by simp only; omega) (stsub_consI rfl (by simp only; omega) stsub_nil) (ht_cons ht_nil)
              simp only
              rw [hW2 j hj, hW j hj, hmem]
              constructor
              · rintro (⟨k', h1, h2⟩ | h)
                · exact ⟨k', by omega, h2⟩
                · exact ⟨k, by omega, h⟩
              · rintro ⟨k', h1, h2⟩
                by_cases e : k' = k
                · subst e; exact .inr h2
                · exact .inl ⟨k', by omega, h2⟩
          · obtain rfl : k = lost + 1 := by omega
            have hfin : standsW W = standsW (endsW m log lost) := standsW_congr fun j hj => by
              rw [Bool.eq_iff_iff, hW j hj, endsW_iff V log lost j hj]
              exact ⟨fun ⟨k, h1, h2⟩ => ⟨k, by omega, h2⟩, fun ⟨k, h1, h2⟩ => ⟨k, by omega, h2⟩⟩
            have hws : Cr Try.prog 61 [.agg (encW 24 W).toArray] KTrue (fun q : Option Addr × Nat => .slice q.1 (standsW (endsW m log lost)).length q.2) (fun q => KSl q.1 (standsW (endsW m log lost)).length q.2 encSd (standsW (endsW m log lost))) := by
              have := wstands_j W
              rwa [hfin] at this
            refine JC_exit ?_
            refine JE_seq_exit ?_
            refine JE_then_exit ?_
            refine JE_block_here ?_
            refine JE_seq ?_
            refine JC_seq ?_
            refine JC_region ?_
            refine JL_dt rfl (det_loadKA (vs := encW 24 W) rfl Try.isAgg103 Try.sizeOf103 (by rw [List.drop_zero]; exact List.take_of_length_le (by rw [encW_len]; decide)) (encW_len 24 _)) ?_
            -- stop: op  1 t159 := (call (Call (value f61) (t158) (103)))   <0>   84
            refine JL_step rfl rfl rfl (jo_call rfl rfl Try.call61 rfl (hws)) fun ⟨la, lc⟩ => ?_
            refine JL_pd rfl (det_assign rfl) ?_
            refine JL_nil ?_
            refine JE_seq ?_
            refine JC_seq ?_
            refine JC_seq ?_
            refine JC_region ?_
            refine JL_pd rfl (det_move rfl) ?_
            refine JL_pd rfl (det_len rfl Try.runUnderlying36) ?_
            refine JL_pd rfl (det_eql rfl rfl) ?_
            refine JL_nil ?_
            refine JE_seq ?_
            -- stop: cond
            generalize standsW (endsW m log lost) = L
            refine JC_if rfl (fun h7 => ?_) (fun h7 => ?_)
            · have hL : L = [] := List.eq_nil_of_length_eq_zero (by omega)
              subst hL
              refine JC_seq ?_
              refine JC_region ?_
              refine JL_pd rfl (det_assign rfl) ?_
              refine JL_pd rfl (det_assign rfl) ?_
              refine JL_nil ?_
              refine JE_seq ?_
              refine JC_ret ?_
              refine JE_seq_ret ?_
              -- stop: out
              refine JE_out (.inl rfl) (none, 0) (results2 Try.results34 (res_tmp rfl) (res_tmp rfl)) rfl (List.Perm.refl _) (fun w _ => ⟨⟨Nat.le_refl _, by decide, fun _ => ⟨rfl, rfl⟩, fun h => absurd rfl h⟩, rfl⟩)
            · have hL : ¬ L = [] := fun e => h7 (by rw [e]; rfl)
              refine JC_skip ?_
              refine JE_seq ?_
              refine JC_seq ?_
              refine JC_region ?_
              refine JL_pd rfl (det_move rfl) ?_
              refine JL_pd rfl (det_assign rfl) ?_
              refine JL_pd rfl (det_assign rfl) ?_
              refine JL_nil ?_
              refine JE_seq ?_
              refine JC_ret ?_
              -- stop: out
              refine JE_out (.inl rfl) (la, lc) (results2 Try.results34 (res_tmp rfl) (res_tmp rfl)) (by rw [if_neg hL]) (List.Perm.refl _) (fun w h => h.1)
end Go.Proofs.Ytgbfjcgjcnndpaa

/-
  DERIVED: THE SHELF's CONTRACTS AT THIS DUMP, IN PLAIN WORDS (tools/lay-plain.mjs out of 'TryShelf.lean', which tools/lay-shelf.mjs wrote): THE SAME DECLARATIONS UNDER THE SAME NAMES: 'import', 'namespace', 'open', 'def', 'theorem' AND NOTHING ELSE: no command of the shelf's: FOR A HAND-IN. Each laying: the table of numbers ('.._ren') and one theorem, a field a fact of the dump's own or the kernel's comparison; each contract: ONE APPLICATION.
-/
namespace Go.Proofs.Ytgbfjcgjcnndpaa
open Go.Shelf Go.Proofs
def Try.sortLk_ren : Go.Shelf.Ren := ⟨fun | 6 => 70 | 15 => 92 | 14 => 91 | 28 => 111 | 29 => 112 | 20 => 103 | 21 => 104 | 22 => 105 | 23 => 106 | 24 => 107 | 25 => 108 | 26 => 109 | 27 => 110 | 46 => 113 | 47 => 114 | 48 => 115 | 49 => 116 | 50 => 117 | 57 => 118 | n => n, fun | 22 => 32 | 24 => 62 | 25 => 120 | 3 => 3 | 39 => 87 | 0 => 0 | 53 => 84 | 55 => 162 | 4 => 4 | 46 => 155 | 45 => 154 | 50 => 135 | 5 => 5 | 9 => 9 | 66 => 163 | 70 => 167 | 76 => 169 | 77 => 170 | n => n, fun | n => n⟩
theorem Try.sortLk : Go.Proofs.SlLaysF0.n6 Try.prog Try.sortLk_ren := {
  mixed := by kernel_rfl
  f6 := ⟨Try.f70.name, by decide, Try.func70.trans (congrArg some (by kernel_rfl))⟩
  f14 := ⟨Try.f91.name, by decide, Try.func91.trans (congrArg some (by kernel_rfl))⟩
  f15 := Try.func92.trans (congrArg some (by kernel_rfl))
  f20 := ⟨Try.f103.name, by decide, Try.func103.trans (congrArg some (by kernel_rfl))⟩
  f21 := ⟨Try.f104.name, by decide, Try.func104.trans (congrArg some (by kernel_rfl))⟩
  f22 := ⟨Try.f105.name, by decide, Try.func105.trans (congrArg some (by kernel_rfl))⟩
  f23 := ⟨Try.f106.name, by decide, Try.func106.trans (congrArg some (by kernel_rfl))⟩
  f24 := ⟨Try.f107.name, by decide, Try.func107.trans (congrArg some (by kernel_rfl))⟩
  f25 := ⟨Try.f108.name, by decide, Try.func108.trans (congrArg some (by kernel_rfl))⟩
  f26 := ⟨Try.f109.name, by decide, Try.func109.trans (congrArg some (by kernel_rfl))⟩
  f27 := ⟨Try.f110.name, by decide, Try.func110.trans (congrArg some (by kernel_rfl))⟩
  f28 := Try.func111.trans (congrArg some (by kernel_rfl))
  f29 := Try.func112.trans (congrArg some (by kernel_rfl))
  f46 := ⟨Try.f113.name, by decide, Try.func113.trans (congrArg some (by kernel_rfl))⟩
  f47 := Try.func114.trans (congrArg some (by kernel_rfl))
  f48 := Try.func115.trans (congrArg some (by kernel_rfl))
  f49 := ⟨Try.f116.name, by decide, Try.func116.trans (congrArg some (by kernel_rfl))⟩
  f50 := ⟨Try.f117.name, by decide, Try.func117.trans (congrArg some (by kernel_rfl))⟩
  f57 := ⟨Try.f118.name, by decide, Try.func118.trans (congrArg some (by kernel_rfl))⟩
  t0 := Try.underlying0
  a0 := Try.isAgg0
  z0 := Try.sizeOf0
  v0 := Try.zeroValue0
  t3 := Try.underlying3
  a3 := Try.isAgg3
  z3 := Try.sizeOf3
  v3 := Try.zeroValue3
  t4 := Try.underlying4
  a4 := Try.isAgg4
  z4 := Try.sizeOf4
  v4 := Try.zeroValue4
  t5 := Try.underlying5
  a5 := Try.isAgg5
  z5 := Try.sizeOf5
  v5 := Try.zeroValue5
  t9 := Try.underlying9
  a9 := Try.isAgg9
  z9 := Try.sizeOf9
  v9 := Try.zeroValue9
  t22 := Try.underlying32
  a22 := Try.isAgg32
  z22 := Try.sizeOf32
  v22 := Try.zeroValue32
  t25 := Try.underlying120
  a25 := Try.isAgg120
  z25 := Try.sizeOf120
  v25 := Try.zeroValue120
  t39 := Try.underlying87
  a39 := Try.isAgg87
  z39 := Try.sizeOf87
  v39 := Try.zeroValue87
  t45 := Try.underlying154
  a45 := Try.isAgg154
  z45 := Try.sizeOf154
  v45 := Try.zeroValue154
  t46 := Try.underlying155
  a46 := Try.isAgg155
  z46 := Try.sizeOf155
  v46 := Try.zeroValue155
  t50 := Try.underlying135
  a50 := Try.isAgg135
  z50 := Try.sizeOf135
  v50 := Try.zeroValue135
  t53 := Try.underlying84
  a53 := Try.isAgg84
  z53 := Try.sizeOf84
  v53 := Try.zeroValue84
  t55 := Try.underlying162
  a55 := Try.isAgg162
  z55 := Try.sizeOf162
  v55 := Try.zeroValue162
  t66 := Try.underlying163
  a66 := Try.isAgg163
  z66 := Try.sizeOf163
  v66 := Try.zeroValue163
  t70 := Try.underlying167
  a70 := Try.isAgg167
  z70 := Try.sizeOf167
  v70 := Try.zeroValue167
  t76 := Try.underlying169
  a76 := Try.isAgg169
  z76 := Try.sizeOf169
  v76 := Try.zeroValue169
  t77 := Try.underlying170
  a77 := Try.isAgg170
  z77 := Try.sizeOf170
  v77 := Try.zeroValue170 }
end Go.Proofs.Ytgbfjcgjcnndpaa

/- Walks of cycle: locks in order. -/
namespace Go.Proofs.Ytgbfjcgjcnndpaa
open Go.RowKit Go.Shelf Go.Proofs Go.Lib
open Go.Sort hiding Below

def orOf (x y : Int) : Int := if x = 0 then y else x
theorem Or_two (x y : Int) (b : Nat) (w : World) (h0 : w.cell? ⟨b, 0, none⟩ = some (I x)) (h1 : w.cell? ⟨b, 1, none⟩ = some (I y)) :
    Calls Try.prog 72 #[.slice (some ⟨b, 0, none⟩) 2 2] w fun e w' => e = .returned (I (orOf x y)) ∧ w = w' := by
  go_enter Try.func72, Try.ntmps72
  go_wp2
  go_loop [8] (fun i => i = I 0 ∨ (i = I 1 ∧ Hid (x = 0)) ∨ (i = I 2 ∧ Hid (x = 0 ∧ y = 0))) (fun i => 2 - (intOf i).toNat)
  case atStart => exact .inl rfl
  case round =>
    rcases hrel with rfl | ⟨rfl, hz⟩ | ⟨rfl, hz⟩
    · by_cases hx : x = 0
      · go_wp2
        go_round
        case rel => exact .inr (.inl ⟨by go_num, hx⟩)
        case measure => simp [intOf]
      · go_wp2
        go_ret
        exact ⟨by simp [orOf, hx], rfl⟩
    · by_cases hx : y = 0
      · go_wp2
        go_round
        case rel => exact .inr (.inr ⟨by go_num, hz.out, hx⟩)
        case measure => simp [intOf]
      · go_wp2
        go_ret
        exact ⟨by simp [orOf, hz.out], rfl⟩
    · go_wp2
      go_ret
      have h := hz.out
      exact ⟨by simp [orOf, h.1, h.2], rfl⟩
/-- The world has grown alone. -/
def Grown (W w' : World) : Prop := ∃ q os, w' = grow (W.drewN q) os
theorem Grown.refl (W : World) : Grown W W := ⟨0, #[], by simp [World.drewN]⟩
theorem Grown.alloc {W w : World} (h : Grown W w) (o : Obj) : Grown W (w.alloc o) := by
  obtain ⟨q, os, rfl⟩ := h
  exact ⟨q, os ++ #[o], by rw [alloc_eq_grow, grow_grow]⟩
def okL (l : Lk) : Prop := -1000 ≤ l.sg ∧ l.sg ≤ 1000 ∧ -1000 ≤ l.at_ ∧ l.at_ ≤ 1000
/-- The difference by which locks are sorted. -/
def lkOf (s t : Lk) : Int := orOf (s.sg - t.sg) (s.at_ - t.at_)
theorem lk_any (s t : Lk) (w : World) (h1 : okL s) (h2 : okL t) :
    Calls Try.prog 71 #[.agg #[I s.sg, I s.at_], .agg #[I t.sg, I t.at_]] w fun e w' => e = .returned (I (lkOf s t)) ∧ Grown w w' := by
  unfold okL at h1 h2
  go_enter Try.func71, Try.ntmps71
  go_wp2_with (go_at_call 72; refine Calls.mono (Or_two (s.sg - t.sg) (s.at_ - t.at_) _ _ (by simp [go_sem]) (by simp [go_sem])) ?_; rintro e w' ⟨rfl, rfl⟩)
  go_ret
  exact ⟨rfl, (((Grown.refl w).alloc _).alloc _).alloc _⟩
def lessLk (s t : Lk) : Bool := decide (s.sg < t.sg ∨ s.sg = t.sg ∧ s.at_ < t.at_)
abbrev BLk := { l : Lk // okL l }
instance : Inhabited BLk := ⟨⟨⟨0, 0⟩, by simp [okL]⟩⟩
def encBL (x : BLk) : List Value := encLk x.1
theorem lk_less (s t : Lk) : decide (lkOf s t < 0) = lessLk s t := by
  unfold lkOf orOf lessLk
  by_cases h : s.sg - t.sg = 0
  · rw [if_pos h, decide_eq_decide]; omega
  · rw [if_neg h, decide_eq_decide]; omega
theorem lt_lessLk (x y : BLk) : ltOf (fun x y : BLk => lkOf x.1 y.1) x y = lessLk x.1 y.1 := lk_less _ _
theorem swoLk : SWO (ltOf fun x y : BLk => lkOf x.1 y.1) where
  irrefl x := by rw [lt_lessLk]; simp [lessLk]
  trans x y z h1 h2 := by rw [lt_lessLk] at *; simp [lessLk] at *; omega
  ntrans x y z h1 h2 := by rw [lt_lessLk] at *; simp [lessLk] at *; omega
theorem sortWorldK_heap {α : Type} [Inhabited α] (enc : α → List Value) (k : Nat) (w : World) (g off n : Nat) (d : Array α) (os : Array Obj) (i : Nat) (hi : i < w.heap.size) (hg : g ≠ i) : (sortWorldK enc k w g off n d os).heap[i]? = w.heap[i]? := by
  show ((w.heap.modify g _) ++ os)[i]? = w.heap[i]?
  rw [Array.getElem?_append_left (by simp; omega), Array.getElem?_modify, if_neg hg]
theorem holds_of_rowL {w : World} {B g cap : Nat} {T : TypeId} {ds : List BLk} (h : Row w B T 2 g ds.length cap (ds.flatMap encBL)) : HoldsK encBL 2 w g 0 ds.toArray := by
  intro j hj
  rw [size_flatK, List.size_toArray] at hj
  have hi : j / 2 < ds.length := by omega
  rw [get_flatK _ _ _ _ (by simpa using hj), Nat.zero_add]
  refine ⟨h.cell j ?_, h.free j⟩
  have e := flatMap_get encBL 2 (fun _ => rfl) ds (j / 2) (j % 2) ds[j / 2] (List.getElem?_eq_getElem hi) (Nat.mod_lt _ (by decide))
  rw [show j / 2 * 2 + j % 2 = j from by omega] at e
  rw [e, getElem!_pos ds.toArray (j / 2) (by simpa using hi)]
  have hl : j % 2 < (encBL ds[j / 2]).length := by show j % 2 < 2; omega
  rw [List.getElem?_eq_getElem hl, getElem!_pos _ _ (by simpa using hl)]
  rfl
theorem cells_of_holdsL {w : World} {g : Nat} {d : Array BLk} (h : HoldsK encBL 2 w g 0 d) : CellsAt w g 0 (d.toList.flatMap encBL) := by
  intro i c hc
  have hl := (List.getElem?_eq_some_iff.1 hc).1
  rw [flatMap_len encBL 2 (fun _ => rfl)] at hl
  have hi : i / 2 < d.toList.length := by omega
  have hi' : i / 2 < d.size := by simpa using hi
  have e := flatMap_get encBL 2 (fun _ => rfl) d.toList (i / 2) (i % 2) d.toList[i / 2] (List.getElem?_eq_getElem hi) (Nat.mod_lt _ (by decide))
  rw [show i / 2 * 2 + i % 2 = i from by omega, hc] at e
  have h2 := (h.cell (i := i / 2) (c := i % 2) hi' (Nat.mod_lt _ (by decide))).1
  rw [show 0 + i / 2 * 2 + i % 2 = 0 + i from by omega] at h2
  rw [h2, getElem!_pos d (i / 2) hi']
  have hl2 : i % 2 < (encBL d[i / 2]).length := by show i % 2 < 2; omega
  rw [getElem!_pos (encBL d[i / 2]) _ hl2]
  rw [Array.getElem_toList, List.getElem?_eq_getElem hl2] at e
  exact e.symm
/-- A slice of the call's own, of which only what it holds is known. -/
def kl {α : Type} (v : Value) (enc : α → List Value) (xs : List α) : Chunk := ⟨fun k => v.ownBlock = some k, fun w => ∃ a cap, v = .slice a xs.length cap ∧ KSl a xs.length cap enc xs w⟩
section
variable {X : Ctx} {P : Program} {st : Sto} {H H' : List Chunk} {R : World → Prop} {k : Kont} {ops : Array Oper} {rest : List Oper} {Q : Exit → Act → World → Prop}
theorem JC_kl {α : Type} {enc : α → List Value} {c : Code} (v : Value) (xs : List α) [hp : Pick H (kl v enc xs) H'] (hF : ∀ b, ¬ X.Fp b) (h : ∀ a cap, v = .slice a xs.length cap → JC X P c k st H' (KAnd (KSl a xs.length cap enc xs) R)) : JC X P c k st H R := fun a w ho => by
  have ho2 := ho.freeze (c := kl v enc xs) hF
  obtain ⟨a2, cap, e, _⟩ := ho2.r.1
  exact h a2 cap e a w (ho2.know fun w' hw => ⟨by obtain ⟨a3, cap3, e3, h3⟩ := hw.1; rw [e] at e3; cases e3; exact h3, hw.2⟩)
end
theorem enter_lk (args : Array Value) (w : World) : (callFunc 71 args).run Try.prog w = .ok (.enter 71 args) w := by kernel_rfl
set_option maxHeartbeats 1000000 in
theorem sortLk_x (v : Value) (ls : List Lk) (hok : ∀ l ∈ ls, okL l) (hnd : ls.Nodup) (hs : ls.length ≤ 1000000) :
    Cx Try.prog 70 [v, .func (.func 71) #[] #[]] [ow v 62 2 ls.length (ls.flatMap encLk)] KTrue (fun _ : { ts : List Lk // ts.Perm ls ∧ ts.Pairwise fun x y => lessLk x y = true } => .tuple #[])
      (fun ts => [kl v encLk ts.1]) (fun _ => KTrue) := by
  intro M w a1 a2 a3 a4
  obtain ⟨ds, rfl⟩ : ∃ ds : List BLk, ls = ds.map (·.1) := ⟨ls.attach.map fun x => ⟨x.1, hok x.1 x.2⟩, by simp⟩
  have hc := a2 _ (List.mem_singleton.2 rfl)
  have hfl : ((ds.map (·.1)).flatMap encLk) = ds.flatMap encBL := by rw [List.flatMap_map]; rfl
  rw [hfl] at hc
  simp only [List.length_map] at hc hs ⊢
  rcases hc.1.now.2 with ⟨rfl, h0⟩ | ⟨g, cap, cur, rfl, h1, h2, h3, h4, h5, h6⟩
  · have hds : ds = [] := List.eq_nil_of_length_eq_zero h0
    subst hds
    have hno := AnyF.slices_SortFunc_none Try.sortLk none 0 (.func (.func 71) #[] #[]) w
    change Calls Try.prog 70 _ _ _ at hno
    refine hno.mono ?_
    rintro e w' ⟨rfl, rfl⟩
    refine ⟨⟨[], by simp, List.Pairwise.nil⟩, M, rfl, Moves.refl _, fun _ h => h, fun _ h => .inl h, a1, fun c hc => ?_, by simp, fun _ _ => trivial⟩
    obtain rfl := List.mem_singleton.1 hc
    refine ⟨⟨fun b hb => (by cases hb), fun w2 _ _ => ⟨none, 0, rfl, ⟨Nat.le_refl _, by decide, fun _ => ⟨rfl, rfl⟩, fun h => absurd rfl h⟩, rfl⟩⟩, fun b hb => (by cases hb)⟩
  · have hrow : Row w 0 62 2 g ds.length cap (ds.flatMap encBL) := hc.1.now
    have hcmp : CmpLays Try.prog 71 #[] encBL 2 (fun x y => lkOf x.1 y.1) g 0 ds.toArray.size w := fun m os dk hd x y => lk_any x.1 y.1 _ x.2 y.2
    have hH := holds_of_rowL hrow
    have hcon := AnyQ.slices_SortFunc Try.sortLk 2 Try.isAgg62 Try.sizeOf62 encBL (fun _ => rfl) (fun x v hv => by simp [encBL, encLk] at hv; rcases hv with rfl | rfl <;> rfl) (fun x y => lkOf x.1 y.1) swoLk 71 #[] g 0 cap ds.toArray w enter_lk hcmp hH hrow.lt (by simp; omega)
    change Calls Try.prog 70 _ _ _ at hcon
    refine hcon.mono ?_
    rintro e w' ⟨rfl, d', n, os, ⟨hsz, _, hp⟩, hso, rfl⟩
    have hperm : d'.toList.Perm ds := by
      have e1 : d'.extract 0 ds.toArray.size = d' := by rw [← hsz]; simp
      rw [e1] at hp
      simpa using hp
    have hpw : (d'.toList.map (·.1)).Pairwise fun x y => lessLk x y = true := by
      rw [List.pairwise_map, List.pairwise_iff_getElem]
      intro i j hi hj hij
      have h1 := hso i j (Nat.zero_le _) hij (by simpa [hsz] using hj)
      rw [getElem!_pos d' i (by simpa using hi), getElem!_pos d' j (by simpa using hj), lt_lessLk] at h1
      have hnd0 : ds.Nodup := (List.pairwise_map.1 hnd).imp fun h e => h (by rw [e])
      have hnd' : d'.toList.Nodup := hperm.nodup_iff.2 hnd0
      have hne : d'.toList[i] ≠ d'.toList[j] := fun e => by have := (List.getElem_inj hnd').1 e; omega
      rw [Array.getElem_toList, Array.getElem_toList] at *
      simp only [lessLk, decide_eq_false_iff_not, decide_eq_true_eq] at h1 ⊢
      have : ¬ (d'[i].1.sg = d'[j].1.sg ∧ d'[i].1.at_ = d'[j].1.at_) := fun ⟨a, b⟩ => hne (Subtype.ext (Lk.ext'.2 ⟨a, b⟩))
      omega
    have hlen : (d'.toList.map (·.1)).length = ds.length := by rw [List.length_map, hperm.length_eq]
    have hcell := cells_of_holdsL (holdsK_sortWorldK encBL 2 w g 0 n ds.toArray d' os hrow.lt hH hsz)
    have hzz : w.heap.size ≤ (sortWorldK encBL 2 w g 0 n d' os).heap.size := size_sortWorldK_c ..
    refine ⟨⟨d'.toList.map (·.1), hperm.map _, hpw⟩, M, rfl, ⟨rfl, rfl, rfl, hzz, fun i hi hn => sortWorldK_heap _ _ _ _ _ _ _ _ i hi fun e => hn ⟨_, List.mem_singleton.2 rfl, by show _ = some i; rw [← e]; rfl⟩⟩, fun _ h => h, fun _ h => .inl h, fun b hb => Nat.lt_of_lt_of_le (a1 b hb) hzz, fun c hc => ?_, by simp, fun _ _ => trivial⟩
    obtain rfl := List.mem_singleton.1 hc
    have hown : ∀ b, (kl (.slice (some ⟨g, 0, none⟩) ds.length cap) encLk (d'.toList.map (·.1))).own b → b = g := fun b hb => by
      have : (Value.slice (some (⟨g, 0, none⟩ : Addr)) ds.length cap).ownBlock = some b := hb
      simpa [Value.ownBlock] using this.symm
    refine ⟨⟨fun b hb => by rw [hown b hb]; exact Nat.lt_of_lt_of_le hrow.lt hzz, fun w2 hz2 he2 => ⟨some ⟨g, 0, none⟩, cap, by rw [hlen], ⟨by rw [hlen]; exact h3, by omega, fun h => (by cases h), fun _ => ⟨g, 0, rfl, ?_, fun i c hi => ?_⟩⟩, rfl⟩⟩, fun b hb => ⟨?_, .inl ⟨_, List.mem_singleton.2 rfl, ?_⟩⟩⟩
    · exact Nat.lt_of_lt_of_le (Nat.lt_of_lt_of_le hrow.lt hzz) hz2
    · have e2 : ((d'.toList.map (·.1)).flatMap encLk) = d'.toList.flatMap encBL := by rw [List.flatMap_map]; rfl
      rw [e2] at hi
      have h7 := hcell i c hi
      have h8 := he2 g rfl
      simp only [World.cell?, h8] at h7 ⊢
      exact h7
    · rw [hown b hb]; exact (a2 _ (List.mem_singleton.2 rfl)).2 g rfl
    · rw [hown b hb]; rfl
end Go.Proofs.Ytgbfjcgjcnndpaa

/- Plain words for cycle: '==' on rows of bools; the fewest locks. Nothing is asked. -/
namespace Go.Proofs.Ytgbfjcgjcnndpaa
open Go.RowKit Go.Shelf

theorem cells3 : Try.prog.cellsOf 43 = 3 := by kernel_rfl
theorem cells1 : Try.prog.cellsOf 4 = 1 := by kernel_rfl
theorem info3 : ∃ i, Try.prog.info? 43 = some i := Option.isSome_iff_exists.1 (by kernel_rfl)
theorem info1 : ∃ i, Try.prog.info? 4 = some i := Option.isSome_iff_exists.1 (by kernel_rfl)
theorem eqItems_all (d : Nat) (e c : Nat) (xs ys : Array Value) (r : Nat → Bool) : ∀ (is : List Nat), (∀ i ∈ is, ∃ a b, ∀ w, (part e xs (i * c)).run Try.prog w = .ok a w ∧ (part e ys (i * c)).run Try.prog w = .ok b w ∧ (Op.equalIn d e a b).run Try.prog w = .ok (r i) w) →
    ∀ w, (Op.eqItems d e c xs ys is).run Try.prog w = .ok (is.all r) w
  | [], _, w => by simp [Op.eqItems]
  | i :: is, h, w => by
    obtain ⟨a, b, hab⟩ := h i (by simp)
    obtain ⟨h1, h2, h3⟩ := hab w
    have ih := eqItems_all d e c xs ys r is (fun j hj => h j (by simp [hj])) w
    simp only [Op.eqItems, Sem.run_bind, h1, h2, h3, Result.andThen_ok, List.all_cons]
    cases hr : r i
    · simp
    · simpa using ih
theorem eqRow3 (d : Nat) (a b : Nat → Bool) (w : World) : (Op.equalIn (d + 2) 43 (.agg #[.bool (a 0), .bool (a 1), .bool (a 2)]) (.agg #[.bool (b 0), .bool (b 1), .bool (b 2)])).run Try.prog w = .ok ((List.range 3).all fun i => a i == b i) w := by
  obtain ⟨i1, hi⟩ := info1
  rw [Go.run_equalIn_array w (d + 1) _ _ Try.underlying43 hi, cells1]
  refine eqItems_all _ _ _ _ _ _ _ (fun i hi => ?_) w
  have h3 := List.mem_range.1 hi
  refine ⟨.bool (a i), .bool (b i), fun w => ⟨?_, ?_, ?_⟩⟩
  · have : i = 0 ∨ i = 1 ∨ i = 2 := by omega
    rcases this with rfl | rfl | rfl <;> simp [part, Sem.run_bind, Result.andThen, go_sem]
  · have : i = 0 ∨ i = 1 ∨ i = 2 := by omega
    rcases this with rfl | rfl | rfl <;> simp [part, Sem.run_bind, Result.andThen, go_sem]
  · simp [Op.equalIn, Sem.run_bind, Result.andThen, go_sem]
theorem encW_extract (w : Nat → Bool) (i : Nat) (hi : i < 8) : (encW 24 w).toArray.extract (i * 3) (i * 3 + 3) = #[.bool (w (i * 3 + 0)), .bool (w (i * 3 + 1)), .bool (w (i * 3 + 2))] := by
  apply Array.ext
  · simp [encW_len]; omega
  · intro j h1 h2
    have hj : j < 3 := by simpa using h2
    have hget : (encW 24 w).toArray[i * 3 + j]? = some (.bool (w (i * 3 + j))) := by
      rw [List.getElem?_toArray]; exact encW_get (by omega)
    rw [Array.getElem_extract]
    have e := (Array.getElem?_eq_some_iff.1 hget).2
    rw [e]
    have : j = 0 ∨ j = 1 ∨ j = 2 := by omega
    rcases this with rfl | rfl | rfl <;> rfl
/-- '==' on [8][3]bool. -/
theorem eqW {t : TypeId} (hu : Try.prog.underlying t = some (.array 8 43)) (a b : Nat → Bool) (w : World) : (Op.equalIn 10000 t (.agg (encW 24 a).toArray) (.agg (encW 24 b).toArray)).run Try.prog w = .ok ((List.range 8).all fun i => (List.range 3).all fun j => a (i * 3 + j) == b (i * 3 + j)) w := by
  obtain ⟨i1, hi⟩ := info3
  rw [Go.run_equalIn_array w 9999 _ _ hu hi, cells3]
  refine eqItems_all _ _ _ _ _ _ _ (fun i hi => ?_) w
  have h8 := List.mem_range.1 hi
  refine ⟨_, _, fun w => ⟨?_, ?_, eqRow3 9997 (fun j => a (i * 3 + j)) (fun j => b (i * 3 + j)) w⟩⟩
  · rw [← encW_extract a i h8]
    simp [part, Sem.run_bind, Result.andThen, go_sem, encW_len]
  · rw [← encW_extract b i h8]
    simp [part, Sem.run_bind, Result.andThen, go_sem, encW_len]
def sameW (a b : Nat → Bool) : Bool := (List.range 24).all fun j => a j == b j
theorem sameW_rows (a b : Nat → Bool) : ((List.range 8).all fun i => (List.range 3).all fun j => a (i * 3 + j) == b (i * 3 + j)) = sameW a b := by
  rw [Bool.eq_iff_iff]
  simp only [sameW, List.all_eq_true, List.mem_range]
  exact ⟨fun h j hj => by have := h (j / 3) (by omega) (j % 3) (by omega); rwa [show j / 3 * 3 + j % 3 = j by omega] at this, fun h i hi j hj => h _ (by omega)⟩
theorem sameW_iff {a b : Nat → Bool} : sameW a b = true ↔ ∀ j, j < 24 → a j = b j := by
  simp only [sameW, List.all_eq_true, List.mem_range, beq_iff_eq]
theorem eqW2 {t : TypeId} (hu : Try.prog.underlying t = some (.array 8 43)) (a b : Nat → Bool) (w : World) : (Op.equalIn 10000 t (.agg (encW 24 a).toArray) (.agg (encW 24 b).toArray)).run Try.prog w = .ok (sameW a b) w := by
  rw [eqW hu, sameW_rows]
/-! Other locks. -/
abbrev wo (m : Mc) (ls : List Lk) : Mc := ⟨m.states, m.steps, m.running, ls⟩
theorem levL_wo (m : Mc) (ls x : List Lk) : ∀ n, levL (wo m x) ls n = levL m ls n
  | 0 => rfl
  | n + 1 => by
    show growL (wo m x) ls (levL (wo m x) ls n) = growL m ls (levL m ls n)
    rw [levL_wo m ls x n]; rfl
theorem reachL_wo (m : Mc) (ls x : List Lk) : reachL (wo m x) ls = reachL m ls := levL_wo m ls x 24
theorem Valid.wo {m : Mc} (V : Valid m) {ls : List Lk} (h1 : ls.length ≤ 40) (h2 : ∀ l ∈ ls, okLock m l = true) : Valid (wo m ls) := ⟨V.ns, h1, V.s1, V.s2, V.st, V.run, h2, V.nr⟩
/-- Whether a lock is needed: a signal leads to a danger from what can be without locks. -/
def needB (m : Mc) (l : Lk) : Bool := (reachL m []).any fun s => (List.range 8).any fun g => (!dangerB m s && decide (lockAt s (g : Int) = l)) && (moves m s (g : Int)).any (dangerB m)
def lk64 (i : Nat) : Lk := ⟨((i / 8 : Nat) : Int), ((i % 8 : Nat) : Int)⟩
def dueL (m : Mc) : List Lk := ((List.range 64).map lk64).filter (needB m)
def dueW (m : Mc) : Nat → Bool := fun j => decide (sdOf j ∈ reachL m []) && !dangerB m (sdOf j)
def rchW (m : Mc) (ls : List Lk) : Nat → Bool := fun j => decide (sdOf j ∈ reachL m ls)
def locksO (m : Mc) : Option (List Lk) := if sameW (rchW m (dueL m)) (dueW m) = true then some (dueL m) else none
theorem needB_iff {m : Mc} {l : Lk} : needB m l = true ↔ ∃ s, s ∈ reachL m [] ∧ ∃ g : Nat, g < 8 ∧ dangerB m s = false ∧ lockAt s (g : Int) = l ∧ ∃ t ∈ moves m s (g : Int), dangerB m t = true := by
  simp only [needB, List.any_eq_true, List.mem_range, Bool.and_eq_true, Bool.not_eq_true', decide_eq_true_eq]
  exact ⟨fun ⟨s, h1, g, h2, ⟨h3, h4⟩, h5⟩ => ⟨s, h1, g, h2, h3, h4, h5⟩, fun ⟨s, h1, g, h2, h3, h4, h5⟩ => ⟨s, h1, g, h2, ⟨h3, h4⟩, h5⟩⟩
theorem need_ok {m : Mc} (V : Valid m) {l : Lk} (h : needB m l = true) : okLock m l = true := by
  obtain ⟨s, hs, g, hg, _, rfl, _⟩ := needB_iff.1 h
  obtain ⟨a, b, c, d⟩ := ((mem_reachL V).1 hs).inM V
  unfold lockAt okLock
  by_cases h6 : (g : Int) = 6 ∨ (g : Int) = 7
  · rw [if_pos h6, if_pos h6]; exact decide_eq_true (by simp only; omega)
  · rw [if_neg h6, if_neg h6]
    simp only [Bool.and_eq_true, inI, decide_eq_true_eq]
    omega
theorem okLock_64 {m : Mc} (V : Valid m) {l : Lk} (h : okLock m l = true) : ∃ i, i < 64 ∧ lk64 i = l := by
  have s2 := V.s2
  refine ⟨(l.sg * 8 + l.at_).toNat, ?_⟩
  unfold okLock inI at h
  unfold lk64
  rw [Lk.ext']
  split at h
  · simp only [decide_eq_true_eq] at h; simp only; omega
  · simp only [Bool.and_eq_true, decide_eq_true_eq] at h; simp only; omega
theorem mem_dueL {m : Mc} (V : Valid m) {l : Lk} : l ∈ dueL m ↔ needB m l = true := by
  unfold dueL
  rw [List.mem_filter, List.mem_map]
  refine ⟨fun h => h.2, fun h => ⟨?_, h⟩⟩
  obtain ⟨i, hi, e⟩ := okLock_64 V (need_ok V h)
  exact ⟨i, List.mem_range.2 hi, e⟩
theorem lk64_sorted : ((List.range 64).map lk64).Pairwise fun x y => lessLk x y = true := by
  rw [List.pairwise_map]
  refine List.pairwise_lt_range.imp fun {a b} h => ?_
  unfold lessLk lk64
  rw [decide_eq_true_eq]
  simp only
  omega
theorem dueL_sorted (m : Mc) : (dueL m).Pairwise fun x y => lessLk x y = true := lk64_sorted.filter _
theorem lessLk_irr (x : Lk) : lessLk x x = false := by simp [lessLk]
theorem lessLk_asym {x y : Lk} (h : lessLk x y = true) : lessLk y x = false := by
  simp only [lessLk, decide_eq_true_eq, decide_eq_false_iff_not] at *; omega
theorem sorted_eq : ∀ {l l' : List Lk}, l.Pairwise (fun x y => lessLk x y = true) → l'.Pairwise (fun x y => lessLk x y = true) → (∀ x, x ∈ l ↔ x ∈ l') → l = l'
  | [], [], _, _, _ => rfl
  | [], b :: l', _, _, h => by have := (h b).2 (by simp); cases this
  | a :: l, [], _, _, h => by have := (h a).1 (by simp); cases this
  | a :: l, b :: l', h1, h2, h => by
    have p1 := List.pairwise_cons.1 h1
    have p2 := List.pairwise_cons.1 h2
    have hab : a = b := by
      rcases List.mem_cons.1 ((h a).1 (by simp)) with e | e
      · exact e
      · rcases List.mem_cons.1 ((h b).2 (by simp)) with e2 | e2
        · exact e2.symm
        · have q1 := p2.1 a e
          have q2 := p1.1 b e2
          rw [lessLk_asym q1] at q2; cases q2
    subst hab
    congr 1
    refine sorted_eq p1.2 p2.2 fun x => ⟨fun hx => ?_, fun hx => ?_⟩
    · rcases List.mem_cons.1 ((h x).1 (by simp [hx])) with e | e
      · subst e; have := p1.1 x hx; rw [lessLk_irr] at this; cases this
      · exact e
    · rcases List.mem_cons.1 ((h x).2 (by simp [hx])) with e | e
      · subst e; have := p2.1 x hx; rw [lessLk_irr] at this; cases this
      · exact e
theorem sorted_nodup {l : List Lk} (h : l.Pairwise fun x y => lessLk x y = true) : l.Nodup := h.imp fun {a b} h e => by subst e; rw [lessLk_irr] at h; cases h
/-! As they are gathered. -/
def N1 (m : Mc) (s : Sd) (g : Nat) (t : Sd) (l : Lk) : Prop := dangerB m s = false ∧ dangerB m t = true ∧ l = lockAt s (g : Int)
def DoneP (m : Mc) (L : List Sd) (i g : Nat) (p : List Sd) (s' : Sd) (g' : Nat) (t' : Sd) : Prop := (s' ∈ L.take i ∧ g' < 8 ∧ t' ∈ moves m s' (g' : Int)) ∨ (L[i]? = some s' ∧ ((g' < g ∧ t' ∈ moves m s' (g' : Int)) ∨ (g' = g ∧ t' ∈ p)))
theorem doneP_snoc {m : Mc} {L : List Sd} {i g : Nat} {p : List Sd} {s t : Sd} (hs : L[i]? = some s) (s' : Sd) (g' : Nat) (t' : Sd) : DoneP m L i g (p ++ [t]) s' g' t' ↔ DoneP m L i g p s' g' t' ∨ (s' = s ∧ g' = g ∧ t' = t) := by
  unfold DoneP
  rw [hs, List.mem_append, List.mem_singleton]
  constructor
  · rintro (h | ⟨h1, h2 | ⟨h2, h3 | h3⟩⟩)
    · exact .inl (.inl h)
    · exact .inl (.inr ⟨h1, .inl h2⟩)
    · exact .inl (.inr ⟨h1, .inr ⟨h2, h3⟩⟩)
    · exact .inr ⟨(Option.some.inj h1).symm, h2, h3⟩
  · rintro ((h | ⟨h1, h2 | ⟨h2, h3⟩⟩) | ⟨rfl, h2, h3⟩)
    · exact .inl h
    · exact .inr ⟨h1, .inl h2⟩
    · exact .inr ⟨h1, .inr ⟨h2, .inl h3⟩⟩
    · exact .inr ⟨rfl, .inr ⟨h2, .inr h3⟩⟩
structure LkI (m : Mc) (L : List Sd) (i g : Nat) (p : List Sd) (xs : List Lk) : Prop where
  nd : xs.Nodup
  mem : ∀ l, l ∈ xs ↔ ∃ s' g' t', DoneP m L i g p s' g' t' ∧ N1 m s' g' t' l
theorem LkI.zero (m : Mc) (L : List Sd) : LkI m L 0 0 [] [] := ⟨List.nodup_nil, fun l => ⟨fun h => (by cases h), fun ⟨s', g', t', h, _⟩ => by
  rcases h with ⟨h, _⟩ | ⟨_, ⟨h, _⟩ | ⟨_, h⟩⟩
  · simp at h
  · omega
  · cases h⟩⟩
theorem LkI.skip {m : Mc} {L : List Sd} {i g : Nat} {p : List Sd} {xs : List Lk} (h : LkI m L i g p xs) {s t : Sd} (hs : L[i]? = some s) (ht : dangerB m s = true ∨ dangerB m t = false ∨ lockAt s (g : Int) ∈ xs) : LkI m L i g (p ++ [t]) xs := by
  refine ⟨h.nd, fun l => ?_⟩
  constructor
  · intro hl
    obtain ⟨s', g', t', h1, h2⟩ := (h.mem l).1 hl
    exact ⟨s', g', t', (doneP_snoc hs _ _ _).2 (.inl h1), h2⟩
  · rintro ⟨s', g', t', h1, h2⟩
    rcases (doneP_snoc hs _ _ _).1 h1 with h1 | ⟨rfl, rfl, rfl⟩
    · exact (h.mem l).2 ⟨s', g', t', h1, h2⟩
    · rcases ht with ht | ht | ht
      · rw [h2.1] at ht; cases ht
      · rw [h2.2.1] at ht; cases ht
      · rw [h2.2.2]; exact ht
theorem LkI.add {m : Mc} {L : List Sd} {i g : Nat} {p : List Sd} {xs : List Lk} (h : LkI m L i g p xs) {s t : Sd} (hs : L[i]? = some s) (h1 : dangerB m s = false) (h2 : dangerB m t = true) (hn : lockAt s (g : Int) ∉ xs) : LkI m L i g (p ++ [t]) (xs ++ [lockAt s (g : Int)]) := by
  refine ⟨List.nodup_append.2 ⟨h.nd, by simp, fun a ha b hb e => hn (by rw [← List.mem_singleton.1 hb, ← e]; exact ha)⟩, fun l => ?_⟩
  rw [List.mem_append, List.mem_singleton, h.mem l]
  constructor
  · rintro (⟨s', g', t', q1, q2⟩ | rfl)
    · exact ⟨s', g', t', (doneP_snoc hs _ _ _).2 (.inl q1), q2⟩
    · exact ⟨s, g, t, (doneP_snoc hs _ _ _).2 (.inr ⟨rfl, rfl, rfl⟩), h1, h2, rfl⟩
  · rintro ⟨s', g', t', q1, q2⟩
    rcases (doneP_snoc hs _ _ _).1 q1 with q1 | ⟨rfl, rfl, rfl⟩
    · exact .inl ⟨s', g', t', q1, q2⟩
    · exact .inr q2.2.2
theorem LkI.conv {m : Mc} {L : List Sd} {i g i' g' : Nat} {p p' : List Sd} {xs : List Lk} (h : LkI m L i g p xs) (hd : ∀ s u t, DoneP m L i g p s u t ↔ DoneP m L i' g' p' s u t) : LkI m L i' g' p' xs :=
  ⟨h.nd, fun l => (h.mem l).trans ⟨fun ⟨s, u, t, h1, h2⟩ => ⟨s, u, t, (hd s u t).1 h1, h2⟩, fun ⟨s, u, t, h1, h2⟩ => ⟨s, u, t, (hd s u t).2 h1, h2⟩⟩⟩
theorem LkI.next {m : Mc} {L : List Sd} {i g : Nat} {xs : List Lk} {s : Sd} (hs : L[i]? = some s) (h : LkI m L i g (moves m s (g : Int)) xs) : LkI m L i (g + 1) [] xs := h.conv fun s' u t => by
  unfold DoneP
  rw [hs]
  refine or_congr Iff.rfl ⟨fun ⟨h1, h2⟩ => ⟨h1, .inl ?_⟩, fun ⟨h1, h2⟩ => ⟨h1, ?_⟩⟩
  · cases h1
    rcases h2 with ⟨h2, h3⟩ | ⟨h2, h3⟩
    · exact ⟨by omega, h3⟩
    · subst h2; exact ⟨by omega, h3⟩
  · cases h1
    rcases h2 with ⟨h2, h3⟩ | ⟨h2, h3⟩
    · by_cases e : u = g
      · subst e; exact .inr ⟨rfl, h3⟩
      · exact .inl ⟨by omega, h3⟩
    · cases h3
theorem LkI.after {m : Mc} {L : List Sd} {i : Nat} {xs : List Lk} {s : Sd} (hs : L[i]? = some s) (h : LkI m L i 8 [] xs) : LkI m L (i + 1) 0 [] xs := h.conv fun s' u t => by
  obtain ⟨hi, e⟩ := List.getElem?_eq_some_iff.1 hs
  unfold DoneP
  rw [hs, take_snoc hi, e, List.mem_append, List.mem_singleton]
  constructor
  · rintro (⟨h1, h2⟩ | ⟨h1, ⟨h2, h3⟩ | ⟨_, h3⟩⟩)
    · exact .inl ⟨.inl h1, h2⟩
    · exact .inl ⟨.inr (Option.some.inj h1).symm, h2, h3⟩
    · cases h3
  · rintro (⟨h1 | h1, h2, h3⟩ | ⟨_, ⟨h2, _⟩ | ⟨_, h3⟩⟩)
    · exact .inl ⟨h1, h2, h3⟩
    · exact .inr ⟨by rw [h1], .inl ⟨h2, h3⟩⟩
    · omega
    · cases h3
theorem LkI.done {m : Mc} {xs : List Lk} (h : LkI m (reachL m []) (reachL m []).length 0 [] xs) (l : Lk) : l ∈ xs ↔ needB m l = true := by
  rw [h.mem l, needB_iff]
  constructor
  · rintro ⟨s, g, t, ⟨h1, h2, h3⟩ | ⟨_, ⟨h2, _⟩ | ⟨_, h3⟩⟩, h4⟩
    · rw [List.take_length] at h1
      exact ⟨s, h1, g, h2, h4.1, h4.2.2.symm, t, h3, h4.2.1⟩
    · omega
    · cases h3
  · rintro ⟨s, h1, g, h2, h3, h4, t, h5, h6⟩
    exact ⟨s, g, t, .inl ⟨by rw [List.take_length]; exact h1, h2, h5⟩, h3, h6, h4.symm⟩
theorem LkI.len {m : Mc} (V : Valid m) {i g : Nat} (hg : g ≤ 8) {p : List Sd} {s : Sd} (hp : g < 8 ∨ p = []) {xs : List Lk} (h : LkI m (reachL m []) i g p xs) (hpm : ∀ s, (reachL m [])[i]? = some s → ∀ t ∈ p, t ∈ moves m s (g : Int)) : xs.length ≤ 64 ∧ ∀ l ∈ xs, okLock m l = true := by
  have hsub : ∀ l ∈ xs, needB m l = true := fun l hl => by
    obtain ⟨s, u, t, h1, h2⟩ := (h.mem l).1 hl
    rw [needB_iff]
    rcases h1 with ⟨h1, h3, h4⟩ | ⟨h1, ⟨h3, h4⟩ | ⟨h3, h4⟩⟩
    · exact ⟨s, List.mem_of_mem_take h1, u, h3, h2.1, h2.2.2.symm, t, h4, h2.2.1⟩
    · exact ⟨s, List.mem_of_getElem? h1, u, by omega, h2.1, h2.2.2.symm, t, h4, h2.2.1⟩
    · subst h3
      rcases hp with hp | hp
      · exact ⟨s, List.mem_of_getElem? h1, u, hp, h2.1, h2.2.2.symm, t, hpm s h1 t h4, h2.2.1⟩
      · rw [hp] at h4; cases h4
  refine ⟨?_, fun l hl => need_ok V (hsub l hl)⟩
  have := nodup_len (l' := (List.range 64).map lk64) h.nd fun l hl => by
    obtain ⟨i, hi, e⟩ := okLock_64 V (need_ok V (hsub l hl))
    exact List.mem_map.2 ⟨i, List.mem_range.2 hi, e⟩
  simpa using this
end Go.Proofs.Ytgbfjcgjcnndpaa

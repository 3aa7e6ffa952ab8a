/- The statements about cycle: CycleRuns. -/
import Derived.Test.YtgbfjcgjcnndpaaC36
set_option linter.unusedSimpArgs false
set_option linter.unusedVariables false
namespace Go.Proofs.Ytgbfjcgjcnndpaa
open Go.RowKit Go.Shelf

theorem zero_reach {m : Mc} (V : Valid m) {ls : List Lk} : (⟨0, 0⟩ : Sd) ∈ reachL m ls := (mem_reachL V).2 .zero
theorem way_to {m : Mc} (V : Valid m) {s : Sd} (h : s ∈ reachL m m.locks) : ∃ w, wayO m m.locks (goalS s) = some w := ((mem_reachL V).1 h).way V (decide_eq_true rfl)
theorem way_runs {m : Mc} (V : Valid m) {s : Sd} {w : List Int} (h : wayO m m.locks (goalS s) = some w) : Run m ⟨0, 0⟩ w s ∧ okSg w ∧ w.length < 24 := by
  have W := wayO_yes V h
  obtain ⟨t, ht, hg⟩ := W.run
  have : t = s := of_decide_eq_true hg
  subst this
  exact ⟨ht, W.ok, W.lt⟩
theorem in_spot {m : Mc} (V : Valid m) {s : Sd} (h : s ∈ reachL m m.locks) : inSpot m s = true := by
  obtain ⟨a, b, c, d⟩ := ((mem_reachL V).1 h).inM V
  unfold inSpot inI
  rw [Bool.and_eq_true, decide_eq_true_eq, decide_eq_true_eq]
  omega
theorem wayRes_of {m : Mc} (V : Valid m) (he : fault m = 0) {s : Sd} (h : s ∈ reachL m m.locks) : ∃ w, wayO m m.locks (goalS s) = some w ∧ wayRes m s = (0, w) := by
  obtain ⟨w, hw⟩ := way_to V h
  refine ⟨w, hw, ?_⟩
  unfold wayRes
  rw [if_pos he, if_pos (in_spot V h), hw]
set_option maxRecDepth 100000 in
set_option maxHeartbeats 1000000 in
theorem CycleRuns_r (m : Mc) (a : MA) (wh : Int) (h0 : 0 ≤ wh) (h255 : wh ≤ 255) (he : fault m = 0) : Cv Try.prog 16 [.agg #[I m.states, .slice a.sa m.steps.length a.sc, .slice a.ra m.running.length a.rc, .slice a.ka m.locks.length a.kc], .int .u8 wh] (KMc m a) (.bool true) := by
  have V := valid_of he
  have hl1 := V.ns; have hl2 := V.nl; have hl3 := V.nr
  have hrb := ready_of he
  have hrl := reach_len m m.locks
  have hz := zero_reach V (ls := m.locks)
  have hst := Stands_jo m
  have hres := fun s (h : s ∈ reachL m m.locks) => wayRes_of V he h
  have hsp := fun s (h : s ∈ reachL m m.locks) => in_spot V h
  have hmem := fun s => mem_reachL V (ls := m.locks) (t := s)
  generalize reachL m m.locks = L at hrl hz hst hres hsp hmem
  have hpos : 0 < L.length := List.length_pos_of_mem hz
  have em : wh.tmod (L.length : Int) = (((wh % (L.length : Int)).toNat : Nat) : Int) := by
    rw [Int.tmod_eq_emod_of_nonneg h0]
    have := Int.emod_nonneg wh (show (L.length : Int) ≠ 0 by omega)
    omega
  have hjl : (wh % (L.length : Int)).toNat < L.length := by
    have h1 := Int.emod_nonneg wh (show (L.length : Int) ≠ 0 by omega)
    have h2 := Int.emod_lt_of_pos wh (show (0 : Int) < L.length by omega)
    omega
  generalize hjj : (wh % (L.length : Int)).toNat = j at em hjl
  have hto := List.getElem_mem hjl
  obtain ⟨w, hw, _⟩ := hres _ hto
  obtain ⟨hrun, hok, hlt⟩ := way_runs V hw
  have hpr : inW (runW m w) L[j] = true := (inW_run V).2 hrun
  have hsj := hsp _ hto
  have hway := fun b : MA => Way_js m b L[j] he hsj w hw
  have hprj := fun b : MA => fun pa pc => ProveRun_jo m b L[j] pa pc w he
  have hpre : ∀ k, k ≤ w.length → L.any (fun s => inW (runW m (w.take k)) s) = true := fun k hk => by
    obtain ⟨u, hu⟩ := hrun.take k
    rw [List.any_eq_true]
    exact ⟨u, (hmem u).2 (hu.rch (fun g hg => hok g (List.mem_of_mem_take hg)) .zero), (inW_run V).2 hu⟩
  have hnear : ∀ k, k ≤ w.length → ∀ s ∈ L, inW (runW m (w.take k)) s = true → (wayRes m s).1 = 0 ∧ (wayRes m s).2.length ≤ k := fun k hk s hs hin => by
    obtain ⟨w', hw', e⟩ := hres s hs
    rw [e]
    refine ⟨rfl, ?_⟩
    have := (wayO_yes V hw').dist.2 _ (((inW_run V).1 hin).pth (fun g hg => hok g (List.mem_of_mem_take hg)) (decide_eq_true rfl))
    rw [List.length_take] at this
    show w'.length ≤ k
    omega
  refine Cx_of Try.func16 rfl Try.ntmps16 rfl fun w0 M0 => ?_
  refine JC_seq ?_
  refine JC_region ?_
  refine JL_step rfl rfl rfl (jo_box rfl rfl) fun b2 => ?_
  refine JL_pd rfl (det_assign rfl) ?_
  refine JL_nil ?_
  refine JE_seq ?_
  refine JC_seq ?_
  refine JC_seq ?_
  refine JC_region ?_
  refine JL_dt rfl (det_loadKA rfl Try.isAgg26 Try.sizeOf26 rfl rfl) ?_
  refine JL_step rfl rfl rfl (jo_callv rfl rfl Try.call38 rfl (ready_j m a)) fun _ => ?_
  refine JL_pd rfl (det_not rfl) ?_
  refine JL_nil ?_
  refine JE_seq ?_
  -- stop: cond
  refine JC_cond rfl (fun h1 => ?_) (fun h1 => ?_)
  · rw [hrb] at h1; cases h1
  · refine JC_skip ?_
    refine JE_seq ?_
    refine JC_seq ?_
    refine JC_region ?_
    refine JL_dt rfl (det_loadKA rfl Try.isAgg26 Try.sizeOf26 rfl rfl) ?_
    refine JL_step rfl rfl rfl (jo_call rfl rfl Try.call20 rfl (Machine_j m a (by omega) (by omega) (by omega))) fun x21 => ?_
    refine JL_step rfl rfl rfl (jo_call rfl rfl Try.call21 rfl (hst x21 he)) fun x22 => ?_
    refine JL_pd rfl (det_move rfl) ?_
    refine JL_pd rfl (det_extract rfl rfl) ?_
    refine JL_pd rfl (det_extract rfl rfl) ?_
    refine JL_pd rfl (det_assign rfl) ?_
    refine JL_pd rfl (det_assign rfl) ?_
    refine JL_nil ?_
    refine JE_seq ?_
    refine JC_seq ?_
    refine JC_seq ?_
    refine JC_region ?_
    refine JL_pd rfl (det_move rfl) ?_
    refine JL_pd rfl (det_neq rfl rfl) ?_
    refine JL_pd rfl (det_move rfl) ?_
    -- stop: guard 2
    refine JL_join1 4 31 (.bool false) (fun hj => ?_) ?_
    · refine JL_split (d0 := 27) rfl (fun q1 => ?_) (fun q1 => ?_)
      · refine JL_skip rfl rfl q1 rfl ?_
        refine JL_skip rfl rfl q1 rfl ?_
        refine JL_skip rfl rfl q1 rfl ?_
        refine JL_pd rfl (det_pick_t rfl q1 rfl) ?_
        exact hj (by kernel_rfl) (stsub_consB rfl (by clear hj; first | rfl | (simp at q1; done) | exact decide_eq_false (by omega)) stsub_nil)
      · refine JL_guard rfl rfl q1 ?_
        refine JL_pd rfl (det_move rfl) ?_
        refine JL_guard rfl rfl q1 ?_
        refine JL_pd rfl (det_len rfl Try.runUnderlying36) ?_
        refine JL_guard rfl rfl q1 ?_
        refine JL_pd rfl (det_eql rfl rfl) ?_
        refine JL_pd rfl (det_pick_f rfl q1 rfl) ?_
        exact hj (by kernel_rfl) (stsub_consB rfl (by clear hj; first | rfl | (simp at q1; done) | exact decide_eq_false (by omega)) stsub_nil)
    refine JL_nil ?_
    refine JE_seq ?_
    -- stop: cond
    refine JC_cond rfl (fun h2 => ?_) (fun h2 => ?_)
    · cases h2
    · refine JC_skip ?_
      refine JE_seq ?_
      refine JC_seq ?_
      refine JC_region ?_
      refine JL_pd rfl (det_move rfl) ?_
      refine JL_pd rfl (det_move rfl) ?_
      refine JL_pd rfl (det_convI rfl Try.runUnderlying5 Try.runUnderlying3 (i64_wrap ⟨by omega, by omega⟩)) ?_
      refine JL_pd rfl (det_move rfl) ?_
      refine JL_pd rfl (det_len rfl Try.runUnderlying36) ?_
      refine JL_pd rfl (det_rem rfl rfl (by omega)) ?_
      refine JL_dt rfl (det_indexAddr (i := j) rfl rfl em hjl Try.runUnderlying36 Try.sizeOf77) ?_
      refine JL_dt rfl (det_loadEA rfl (by first | assumption | omega | decide) Try.isAgg77 Try.sizeOf77 rfl rfl rfl) ?_
      refine JL_step rfl rfl rfl (jo_alloc0 Try.zeroValue77 rfl) fun b7 => ?_
      refine JL_step0 rfl rfl (jo_store rfl rfl rfl (by first | (simp only [splice_norm]; done) | (simp only [splice_norm]; rfl) | rfl) Try.sizeOf77 rfl rfl) fun _ => ?_
      refine JL_nil ?_
      refine JE_seq ?_
      refine JC_seq ?_
      refine JC_draw [] (by kernel_rfl) ?_
      refine JA_dt (i := 0) rfl (by kernel_rfl) (by kernel_rfl) rfl rfl (det_loadKA rfl Try.isAgg26 Try.sizeOf26 rfl rfl) ?_
      refine JA_dt (i := 2) rfl (by kernel_rfl) (by kernel_rfl) rfl rfl (det_loadKA rfl Try.isAgg77 Try.sizeOf77 rfl rfl) ?_
      refine JA_one (i := 1) (by kernel_rfl) rfl rfl (jo_call rfl rfl Try.call20 rfl (Machine_j m a (by omega) (by omega) (by omega))) (fun _ => ⟨hsub_drop 0 rfl, fun _ h => h.2⟩) fun x42 => ?_
      refine JA_one (i := 3) (by kernel_rfl) rfl rfl (jo_call rfl rfl Try.call44 rfl (hway x42)) (fun _ => ⟨hsub_drop 0 rfl, fun _ h => h.2⟩) fun x44 => ?_
      refine JA_pd (i := 4) rfl (by kernel_rfl) rfl rfl (det_move rfl) ?_
      refine JA_pd (i := 5) rfl (by kernel_rfl) rfl rfl (det_extract rfl rfl) ?_
      refine JA_pd (i := 6) rfl (by kernel_rfl) rfl rfl (det_extract rfl rfl) ?_
      refine JA_pd (i := 7) rfl (by kernel_rfl) rfl rfl (det_assign rfl) ?_
      refine JA_pd (i := 8) rfl (by kernel_rfl) rfl rfl (det_assign rfl) ?_
      refine JA_done (by kernel_rfl) ?_
      refine JE_seq ?_
      refine JC_seq ?_
      refine JC_seq ?_
      refine JC_draw [] (by kernel_rfl) ?_
      refine JA_pd (i := 0) rfl (by kernel_rfl) rfl rfl (det_move rfl) ?_
      refine JA_pd (i := 1) rfl (by kernel_rfl) rfl rfl (det_neq rfl rfl) ?_
      refine JA_pd (i := 2) rfl (by kernel_rfl) rfl rfl (det_move rfl) ?_
      -- stop: guard 2
      refine JA_is (d0 := 49) false rfl (by rfl) (fun g1 => ?_)
      refine JA_gpd (i := 3) rfl (by kernel_rfl) rfl rfl rfl rfl g1 (det_move rfl) ?_
      refine JA_gpd (i := 4) rfl (by kernel_rfl) rfl rfl rfl rfl g1 (det_len rfl Try.runUnderlying23) ?_
      refine JA_gpd (i := 5) rfl (by kernel_rfl) rfl rfl rfl rfl g1 (det_gtr rfl rfl) ?_
      refine JA_pd (i := 6) rfl (by kernel_rfl) rfl rfl (det_pick_f rfl g1 rfl) ?_
      refine JA_pd (i := 7) rfl (by kernel_rfl) rfl rfl (det_move rfl) ?_
      -- stop: guard 7
      refine JA_is (d0 := 54) false rfl (by exact decide_eq_false (by omega)) (fun g2 => ?_)
      refine JA_gdt (i := 8) rfl (by kernel_rfl) (by kernel_rfl) rfl rfl rfl rfl g2 (det_loadKA rfl Try.isAgg26 Try.sizeOf26 rfl rfl) ?_
      refine JA_gpd (i := 10) rfl (by kernel_rfl) rfl rfl rfl rfl g2 (det_move rfl) ?_
      refine JA_gdt (i := 12) rfl (by kernel_rfl) (by kernel_rfl) rfl rfl rfl rfl g2 (det_loadKA rfl Try.isAgg77 Try.sizeOf77 rfl rfl) ?_
      refine JA_gone (i := 9) (by kernel_rfl) rfl rfl rfl g2 rfl (jo_call rfl rfl Try.call20 rfl (Machine_j m a (by omega) (by omega) (by omega))) (fun _ => ⟨hsub_drop 0 rfl, fun _ h => h.2⟩) fun x56 => ?_
      refine JA_gone (i := 11) (by kernel_rfl) rfl rfl rfl g2 rfl (jo_call rfl rfl Try.call35 rfl (lList_j w x44.1 x44.2 (by omega))) (fun _ => ⟨hsub_drop 0 rfl, fun _ h => h.2⟩) fun x58 => ?_
      refine JA_gone (i := 13) (by kernel_rfl) rfl rfl rfl g2 rfl (jo_callv rfl rfl Try.call46 rfl (hprj x56 x58.1 x58.2)) (fun _ => ⟨hsub_refl, fun _ h => h⟩) fun _ => ?_
      refine JA_gpd (i := 14) rfl (by kernel_rfl) rfl rfl rfl rfl g2 (det_not rfl) ?_
      refine JA_pd (i := 15) rfl (by kernel_rfl) rfl rfl (det_pick_f rfl g2 rfl) ?_
      refine JA_done (by kernel_rfl) ?_
      refine JE_seq ?_
      -- stop: cond
      refine JC_cond rfl (fun h3 => ?_) (fun h3 => ?_)
      · rw [hpr] at h3; cases h3
      · refine JC_skip ?_
        refine JE_seq ?_
        refine JC_seq ?_
        refine JC_seq ?_
        refine JC_region ?_
        refine JL_pd rfl (det_assign rfl) ?_
        refine JL_nil ?_
        refine JE_seq ?_
        refine JC_block ?_
        -- stop: loop
        refine JC_keep b2 noFp ?_
        refine JC_pure (p := w.length ≤ x44.2) (by intro w' h; exact (Knows.know (F := KSl x44.1 w.length x44.2 encI w) w' h).1.1) fun hcap => ?_
        refine JC_loopF (γ := Nat) (fun k => k ≤ w.length + 1) (fun k => [(10, I k)]) (fun _ => []) (fun k => w.length + 1 - k) 0 (Nat.zero_le _) (stsub_consI rfl rfl stsub_nil) ht_nil ?_
        rintro k hk K hK
        dsimp only [List.cons_append, List.nil_append]
        refine JC_seq ?_
        refine JC_seq ?_
        refine JC_region ?_
        refine JL_pd rfl (det_move rfl) ?_
        refine JL_pd rfl (det_move rfl) ?_
        refine JL_pd rfl (det_len rfl Try.runUnderlying23) ?_
        refine JL_pd rfl (det_leq rfl rfl) ?_
        refine JL_nil ?_
        refine JE_seq ?_
        -- stop: cond
        refine JC_if rfl (fun h4 => ?_) (fun h4 => ?_)
        · have hk2 : k ≤ w.length := by omega
          have hkl : (w.take k).length = k := by rw [List.length_take]; omega
          have hli := lList_j (w.take k) x44.1 x44.2 (by omega)
          have hpk := fun (b : MA) pa pc s => ProveRun_jo m b s pa pc (w.take k) he
          rw [hkl] at hli
          simp only [hkl] at hpk
          have hany := hpre k hk2
          have hnr := hnear k hk2
          generalize runW m (w.take k) = RW at hpk hany hnr
          refine JC_know (R' := KAnd (KSl x44.1 k x44.2 encI (w.take k)) _) (fun w' h => ⟨KSl_take (Knows.know (F := KSl x44.1 w.length x44.2 encI w) w' h) hk2, h⟩) ?_
          refine JC_skip ?_
          refine JE_seq ?_
          refine JC_seq ?_
          refine JC_block ?_
          refine JC_seq ?_
          refine JC_region ?_
          refine JL_pd rfl (det_assign rfl) ?_
          refine JL_nil ?_
          refine JE_seq ?_
          refine JC_seq ?_
          refine JC_seq ?_
          refine JC_region ?_
          refine JL_pd rfl (det_assign rfl) ?_
          refine JL_nil ?_
          refine JE_seq ?_
          refine JC_block ?_
          -- stop: loop
          refine JC_loopF (γ := Nat) (fun i => i ≤ L.length) (fun i => [(12, I i), (11, .bool ((L.take i).any fun s => inW RW s))]) (fun _ => []) (fun i => L.length - i) 0 (Nat.zero_le _) (stsub_consI rfl rfl (stsub_cons rfl stsub_nil)) ht_nil ?_
          rintro i hi K2 hK2
          dsimp only [List.cons_append, List.nil_append]
          refine JC_seq ?_
          refine JC_seq ?_
          refine JC_region ?_
          refine JL_pd rfl (det_move rfl) ?_
          refine JL_pd rfl (det_move rfl) ?_
          refine JL_pd rfl (det_len rfl Try.runUnderlying36) ?_
          refine JL_pd rfl (det_lss rfl rfl) ?_
          refine JL_nil ?_
          refine JE_seq ?_
          -- stop: cond
          refine JC_if rfl (fun h5 => ?_) (fun h5 => ?_)
          · have hi2 : i < L.length := by omega
            have hsn := any_snoc (p := fun s => inW RW s) hi2
            have hni := hnr _ (List.getElem_mem hi2)
            refine JC_skip ?_
            refine JE_seq ?_
            refine JC_seq ?_
            refine JC_block ?_
            refine JC_seq ?_
            refine JC_seq ?_
            refine JC_draw [] (by kernel_rfl) ?_
            refine JA_dt (i := 0) rfl (by kernel_rfl) (by kernel_rfl) rfl rfl (det_loadKA rfl Try.isAgg26 Try.sizeOf26 rfl rfl) ?_
            refine JA_pd (i := 2) rfl (by kernel_rfl) rfl rfl (det_move rfl) ?_
            refine JA_pd (i := 3) rfl (by kernel_rfl) rfl rfl (det_move rfl) ?_
            refine JA_pd (i := 4) rfl (by kernel_rfl) rfl rfl (det_sliceK k rfl rfl rfl (by omega) Try.runUnderlying23 Try.sizeOf3) ?_
            refine JA_pd (i := 6) rfl (by kernel_rfl) rfl rfl (det_move rfl) ?_
            refine JA_pd (i := 7) rfl (by kernel_rfl) rfl rfl (det_move rfl) ?_
            refine JA_dt (i := 8) rfl (by kernel_rfl) (by kernel_rfl) rfl rfl (det_indexAddr rfl rfl (by first | rfl | omega) (by first | assumption | omega | decide) Try.runUnderlying36 Try.sizeOf77) ?_
            refine JA_dt (i := 9) rfl (by kernel_rfl) (by kernel_rfl) rfl rfl (det_loadEA rfl (by first | assumption | omega | decide) Try.isAgg77 Try.sizeOf77 rfl rfl rfl) ?_
            refine JA_one (i := 1) (by kernel_rfl) rfl rfl (jo_call rfl rfl Try.call20 rfl (Machine_j m a (by omega) (by omega) (by omega))) (fun _ => ⟨hsub_drop 0 rfl, fun _ h => h.2⟩) fun x76 => ?_
            refine JA_one (i := 5) (by kernel_rfl) rfl rfl (jo_call rfl rfl Try.call35 rfl (hli)) (fun _ => ⟨hsub_drop 0 rfl, fun _ h => h.2⟩) fun x80 => ?_
            refine JA_one (i := 10) (by kernel_rfl) rfl rfl (jo_callv rfl rfl Try.call46 rfl (hpk x76 x80.1 x80.2 L[i])) (fun _ => ⟨hsub_refl, fun _ h => h⟩) fun _ => ?_
            refine JA_pd (i := 11) rfl (by kernel_rfl) rfl rfl (det_not rfl) ?_
            refine JA_done (by kernel_rfl) ?_
            refine JE_seq ?_
            -- stop: cond
            refine JC_cond rfl (fun h6 => ?_) (fun h6 => ?_)
            · have h6' : inW RW L[i] = false := by simpa using h6
              rw [h6', Bool.or_false] at hsn
              refine JC_exit ?_
              refine JE_seq_exit ?_
              refine JE_block_here ?_
              refine JE_seq ?_
              refine JC_region ?_
              refine JL_pd rfl (det_move rfl) ?_
              refine JL_pd rfl (det_add rfl rfl ⟨by omega, by omega⟩) ?_
              refine JL_pd rfl (det_assign rfl) ?_
              refine JL_nil ?_
              -- stop: end
              refine JE_roundF hK2 (i + 1) (by omega) (by omega) (stsub_consI rfl (by omega) (stsub_consB rfl hsn.symm stsub_nil)) ht_nil
            · have h6' : inW RW L[i] = true := by simpa using h6
              have hni := hni h6'
              rw [h6', Bool.or_true] at hsn
              refine JC_skip ?_
              refine JE_seq ?_
              refine JC_seq ?_
              refine JC_region ?_
              refine JL_pd rfl (det_assign rfl) ?_
              refine JL_nil ?_
              refine JE_seq ?_
              refine JC_seq ?_
              refine JC_draw [] (by kernel_rfl) ?_
              refine JA_dt (i := 0) rfl (by kernel_rfl) (by kernel_rfl) rfl rfl (det_loadKA rfl Try.isAgg26 Try.sizeOf26 rfl rfl) ?_
              refine JA_pd (i := 2) rfl (by kernel_rfl) rfl rfl (det_move rfl) ?_
              refine JA_pd (i := 3) rfl (by kernel_rfl) rfl rfl (det_move rfl) ?_
              refine JA_dt (i := 4) rfl (by kernel_rfl) (by kernel_rfl) rfl rfl (det_indexAddr rfl rfl (by first | rfl | omega) (by first | assumption | omega | decide) Try.runUnderlying36 Try.sizeOf77) ?_
              refine JA_dt (i := 5) rfl (by kernel_rfl) (by kernel_rfl) rfl rfl (det_loadEA rfl (by first | assumption | omega | decide) Try.isAgg77 Try.sizeOf77 rfl rfl rfl) ?_
              refine JA_one (i := 1) (by kernel_rfl) rfl rfl (jo_call rfl rfl Try.call20 rfl (Machine_j m a (by omega) (by omega) (by omega))) (fun _ => ⟨hsub_drop 0 rfl, fun _ h => h.2⟩) fun x89 => ?_
              refine JA_one (i := 6) (by kernel_rfl) rfl rfl (jo_call rfl rfl Try.call44 rfl (Way_j m x89 L[i])) (fun _ => ⟨hsub_drop 0 rfl, fun _ h => h.2⟩) fun x94 => ?_
              refine JA_pd (i := 7) rfl (by kernel_rfl) rfl rfl (det_move rfl) ?_
              refine JA_pd (i := 8) rfl (by kernel_rfl) rfl rfl (det_extract rfl rfl) ?_
              refine JA_pd (i := 9) rfl (by kernel_rfl) rfl rfl (det_extract rfl rfl) ?_
              refine JA_pd (i := 10) rfl (by kernel_rfl) rfl rfl (det_assign rfl) ?_
              refine JA_pd (i := 11) rfl (by kernel_rfl) rfl rfl (det_assign rfl) ?_
              refine JA_done (by kernel_rfl) ?_
              refine JE_seq ?_
              refine JC_seq ?_
              refine JC_region ?_
              refine JL_pd rfl (det_move rfl) ?_
              refine JL_pd rfl (det_neq rfl rfl) ?_
              refine JL_pd rfl (det_move rfl) ?_
              -- stop: guard 2
              refine JL_join1 5 104 (.bool false) (fun hj => ?_) ?_
              · refine JL_split (d0 := 99) rfl (fun q2 => ?_) (fun q2 => ?_)
                · refine JL_skip rfl rfl q2 rfl ?_
                  refine JL_skip rfl rfl q2 rfl ?_
                  refine JL_skip rfl rfl q2 rfl ?_
                  refine JL_skip rfl rfl q2 rfl ?_
                  refine JL_pd rfl (det_pick_t rfl q2 rfl) ?_
                  exact hj (by kernel_rfl) (stsub_consB rfl (by clear hj; first | exact decide_eq_false (by omega) | (rw [hni.1]; rfl) | (exfalso; rw [hni.1] at q2; simp at q2; done)) stsub_nil)
                · refine JL_guard rfl rfl q2 ?_
                  refine JL_pd rfl (det_move rfl) ?_
                  refine JL_guard rfl rfl q2 ?_
                  refine JL_pd rfl (det_len rfl Try.runUnderlying23) ?_
                  refine JL_guard rfl rfl q2 ?_
                  refine JL_pd rfl (det_move rfl) ?_
                  refine JL_guard rfl rfl q2 ?_
                  refine JL_pd rfl (det_gtr rfl rfl) ?_
                  refine JL_pd rfl (det_pick_f rfl q2 rfl) ?_
                  exact hj (by kernel_rfl) (stsub_consB rfl (by clear hj; first | exact decide_eq_false (by omega) | (rw [hni.1]; rfl) | (exfalso; rw [hni.1] at q2; simp at q2; done)) stsub_nil)
              refine JL_nil ?_
              refine JE_seq ?_
              -- stop: cond
              refine JC_cond rfl (fun h7 => ?_) (fun h7 => ?_)
              · cases h7
              · refine JC_skip ?_
                refine JE_block ?_
                refine JE_seq ?_
                refine JC_region ?_
                refine JL_pd rfl (det_move rfl) ?_
                refine JL_pd rfl (det_add rfl rfl ⟨by omega, by omega⟩) ?_
                refine JL_pd rfl (det_assign rfl) ?_
                refine JL_nil ?_
                -- stop: end
                refine JE_roundF hK2 (i + 1) (by omega) (by omega) (stsub_consI rfl (by omega) (stsub_consB rfl hsn.symm stsub_nil)) ht_nil
          · obtain rfl : i = L.length := by omega
            rw [List.take_length, hany]
            refine JC_exit ?_
            refine JE_seq_exit ?_
            refine JE_then_exit ?_
            refine JE_block_here ?_
            refine JE_seq ?_
            refine JC_seq ?_
            refine JC_region ?_
            refine JL_pd rfl (det_move rfl) ?_
            refine JL_pd rfl (det_not rfl) ?_
            refine JL_nil ?_
            refine JE_seq ?_
            -- stop: cond
            refine JC_cond rfl (fun h6 => ?_) (fun h6 => ?_)
            · cases h6
            · refine JC_skip ?_
              refine JE_block ?_
              refine JE_seq ?_
              refine JC_region ?_
              refine JL_pd rfl (det_move rfl) ?_
              refine JL_pd rfl (det_add rfl rfl ⟨by omega, by omega⟩) ?_
              refine JL_pd rfl (det_assign rfl) ?_
              refine JL_nil ?_
              -- stop: end
              refine JE_roundF hK (k + 1) (by omega) (by omega) (stsub_consI rfl (by omega) stsub_nil) ht_nil
        · refine JC_exit ?_
          refine JE_seq_exit ?_
          refine JE_then_exit ?_
          refine JE_block_here ?_
          refine JE_seq ?_
          refine JC_seq ?_
          refine JC_region ?_
          refine JL_step rfl rfl rfl (jo_callv rfl rfl Try.call18 rfl (wakes_j)) fun _ => ?_
          refine JL_pd rfl (det_assign rfl) ?_
          refine JL_nil ?_
          refine JE_seq ?_
          refine JC_ret ?_
          -- stop: out
          refine JE_out (.inl rfl) () (results1 Try.results16 (res_tmp rfl)) rfl (List.Perm.refl _) (fun _ _ => trivial)
theorem CycleRuns_j (m : Mc) (a : MA) (wh : Int) (h0 : 0 ≤ wh) (h255 : wh ≤ 255) : Cv Try.prog 16 [.agg #[I m.states, .slice a.sa m.steps.length a.sc, .slice a.ra m.running.length a.rc, .slice a.ka m.locks.length a.kc], .int .u8 wh] (KMc m a) (.bool true) := by
  cases hr : readyB m with
  | true => exact CycleRuns_r m a wh h0 h255 (ready_v hr)
  | false =>
    refine Cx_of Try.func16 rfl Try.ntmps16 rfl fun w0 M0 => ?_
    refine JC_seq ?_
    refine JC_region ?_
    refine JL_step rfl rfl rfl (jo_box rfl rfl) fun b2 => ?_
    refine JL_pd rfl (det_assign rfl) ?_
    refine JL_nil ?_
    refine JE_seq ?_
    refine JC_seq ?_
    refine JC_seq ?_
    refine JC_region ?_
    refine JL_dt rfl (det_loadKA rfl Try.isAgg26 Try.sizeOf26 rfl rfl) ?_
    refine JL_step rfl rfl rfl (jo_callv rfl rfl Try.call38 rfl (ready_j m a)) fun _ => ?_
    refine JL_pd rfl (det_not rfl) ?_
    refine JL_nil ?_
    refine JE_seq ?_
    -- stop: cond
    refine JC_cond rfl (fun h1 => ?_) (fun h1 => ?_)
    · refine JC_seq ?_
      refine JC_region ?_
      refine JL_step rfl rfl rfl (jo_callv rfl rfl Try.call18 rfl (wakes_j)) fun _ => ?_
      refine JL_pd rfl (det_assign rfl) ?_
      refine JL_nil ?_
      refine JE_seq ?_
      refine JC_ret ?_
      refine JE_seq_ret ?_
      -- stop: out
      refine JE_out (.inl rfl) () (results1 Try.results16 (res_tmp rfl)) rfl (List.Perm.refl _) (fun _ _ => trivial)
    · rw [hr] at h1; cases h1
end Go.Proofs.Ytgbfjcgjcnndpaa

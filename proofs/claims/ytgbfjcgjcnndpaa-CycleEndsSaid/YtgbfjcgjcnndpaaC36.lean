/- The statements about cycle: CycleNever. -/
import Derived.Test.YtgbfjcgjcnndpaaB9
set_option linter.unusedSimpArgs false
set_option linter.unusedVariables false
namespace Go.Proofs.Ytgbfjcgjcnndpaa
open Go.RowKit Go.Shelf

theorem danger_in {m : Mc} (V : Valid m) {s : Sd} (h : dangerB m s = true) : s.sp = 2 ∧ 0 ≤ s.st ∧ s.st < m.states := by
  unfold dangerB at h
  simp only [Bool.and_eq_true, decide_eq_true_eq] at h
  have := V.run _ h.2
  exact ⟨h.1, this.1, this.2⟩
theorem any_danger {m : Mc} (V : Valid m) : (reachL m m.locks).any (dangerB m) = (wayO m m.locks (dangerB m)).isSome := by
  rw [Bool.eq_iff_iff, List.any_eq_true]
  constructor
  · rintro ⟨s, h1, h2⟩
    obtain ⟨l, hl⟩ := ((mem_reachL V).1 h1).way V h2
    rw [hl]; rfl
  · intro h
    obtain ⟨l, hl⟩ := Option.isSome_iff_exists.1 h
    obtain ⟨t, h1, h2⟩ := (wayO_yes V hl).run
    exact ⟨t, (mem_reachL V).2 (h1.rch (wayO_yes V hl).ok .zero), h2⟩
theorem any_snoc {α : Type} {p : α → Bool} {l : List α} {i : Nat} (h : i < l.length) : (l.take (i + 1)).any p = ((l.take i).any p || p l[i]) := by
  rw [take_snoc h, List.any_append]; simp
set_option maxRecDepth 100000 in
set_option maxHeartbeats 1000000 in
theorem CycleNever_n (m : Mc) (a : MA) (ws : List Int) (wa : Option Addr) (wc : Nat) (he : fault m = 0) (hw : wordsOk ws) (hn : wayO m m.locks (dangerB m) = none) : Cv Try.prog 15 [.agg #[I m.states, .slice a.sa m.steps.length a.sc, .slice a.ra m.running.length a.rc, .slice a.ka m.locks.length a.kc], .slice wa ws.length wc] (KAnd (KMc m a) (KSl wa ws.length wc encU ws)) (.bool true) := by
  have V := valid_of he
  have hl1 := V.ns; have hl2 := V.nl; have hl3 := V.nr
  have hrb := ready_of he
  have hspec := randS_spec (m := m) ws
  have hany := any_danger V
  rw [hn] at hany
  have hat : (randS m ws).2 ∈ reachL m m.locks := (mem_reachL V).2 (hspec.1.rch hspec.2.1 .zero)
  have hpr : inW (runW m (randS m ws).1) (randS m ws).2 = true := (inW_run V).2 hspec.1
  have hnd : dangerB m (randS m ws).2 = false := by
    cases hd : dangerB m (randS m ws).2 with
    | false => rfl
    | true => have := List.any_eq_true.2 ⟨_, hat, hd⟩; rw [hany] at this; cases this
  have hrnd := Random_j m a ws wa wc he hw
  have hrl := reach_len m m.locks
  have hst := Stands_jo m
  generalize reachL m m.locks = L at hat hany hrl hst
  generalize randS m ws = Q at hspec hat hpr hnd hrnd
  obtain ⟨sg, at_⟩ := Q
  dsimp only at hspec hat hpr hnd hrnd
  refine Cx_of Try.func15 rfl Try.ntmps15 rfl fun w0 M0 => ?_
  refine JC_seq ?_
  refine JC_region ?_
  refine JL_step rfl rfl rfl (jo_box rfl rfl) fun b2 => ?_
  refine JL_pd rfl (det_assign rfl) ?_
  refine JL_nil ?_
  refine JE_seq ?_
  refine JC_seq ?_
  refine JC_seq ?_
  refine JC_region ?_
  refine JL_dt rfl (det_loadKA rfl Try.isAgg26 Try.sizeOf26 rfl rfl) ?_
  refine JL_step rfl rfl rfl (jo_callv rfl rfl Try.call38 rfl (ready_j m a)) fun _ => ?_
  refine JL_pd rfl (det_not rfl) ?_
  refine JL_nil ?_
  refine JE_seq ?_
  -- stop: cond
  refine JC_cond rfl (fun h1 => ?_) (fun h1 => ?_)
  · rw [hrb] at h1; cases h1
  · refine JC_skip ?_
    refine JE_seq ?_
    refine JC_seq ?_
    refine JC_region ?_
    refine JL_dt rfl (det_loadKA rfl Try.isAgg26 Try.sizeOf26 rfl rfl) ?_
    refine JL_pd rfl (det_move rfl) ?_
    refine JL_step rfl rfl rfl (jo_call rfl rfl Try.call45 rfl (hrnd)) fun x25 => ?_
    refine JL_pd rfl (det_move rfl) ?_
    refine JL_pd rfl (det_extract rfl rfl) ?_
    refine JL_pd rfl (det_extract rfl rfl) ?_
    refine JL_step rfl rfl rfl (jo_alloc0 Try.zeroValue53 rfl) fun b6 => ?_
    refine JL_pd rfl (det_assign rfl) ?_
    refine JL_step0 rfl rfl (jo_store rfl rfl rfl (by first | (simp only [splice_norm]; done) | (simp only [splice_norm]; rfl) | rfl) Try.sizeOf53 rfl rfl) fun _ => ?_
    refine JL_nil ?_
    refine JE_seq ?_
    refine JC_seq ?_
    refine JC_region ?_
    refine JL_keep b6 noFp ?_
    refine JL_dt rfl (det_loadKA rfl Try.isAgg26 Try.sizeOf26 rfl rfl) ?_
    refine JL_step rfl rfl rfl (jo_call rfl rfl Try.call20 rfl (Machine_j m a (by omega) (by omega) (by omega))) fun x30 => ?_
    refine JL_step rfl rfl rfl (jo_callv rfl rfl Try.call26 rfl (Danger_jn m x30 he hn)) fun _ => ?_
    refine JL_pd rfl (det_move rfl) ?_
    refine JL_pd rfl (det_extract rfl rfl) ?_
    refine JL_pd rfl (det_extract rfl rfl) ?_
    refine JL_pd rfl (det_assign rfl) ?_
    refine JL_pd rfl (det_assign rfl) ?_
    refine JL_nil ?_
    refine JE_seq ?_
    refine JC_seq ?_
    refine JC_region ?_
    refine JL_dt rfl (det_loadKA rfl Try.isAgg26 Try.sizeOf26 rfl rfl) ?_
    refine JL_step rfl rfl rfl (jo_call rfl rfl Try.call20 rfl (Machine_j m a (by omega) (by omega) (by omega))) fun x36 => ?_
    refine JL_step rfl rfl rfl (jo_call rfl rfl Try.call21 rfl (hst x36 he)) fun x37 => ?_
    refine JL_pd rfl (det_move rfl) ?_
    refine JL_pd rfl (det_extract rfl rfl) ?_
    refine JL_pd rfl (det_extract rfl rfl) ?_
    refine JL_pd rfl (det_assign rfl) ?_
    refine JL_pd rfl (det_assign rfl) ?_
    refine JL_nil ?_
    refine JE_seq ?_
    refine JC_seq ?_
    refine JC_seq ?_
    refine JC_draw [] (by kernel_rfl) ?_
    refine JA_pd (i := 0) rfl (by kernel_rfl) rfl rfl (det_move rfl) ?_
    refine JA_pd (i := 1) rfl (by kernel_rfl) rfl rfl (det_neq rfl rfl) ?_
    refine JA_pd (i := 2) rfl (by kernel_rfl) rfl rfl (det_move rfl) ?_
    -- stop: guard 2
    skip
    refine JA_is (d0 := 42) false rfl (by (simp [hat])) (fun g1 => ?_)
    refine JA_gpd (i := 3) rfl (by kernel_rfl) rfl rfl rfl rfl g1 (det_move rfl) ?_
    refine JA_gpd (i := 4) rfl (by kernel_rfl) rfl rfl rfl rfl g1 (det_fieldAddr rfl fo_53_0) ?_
    refine JA_gdt (i := 5) rfl (by kernel_rfl) (by kernel_rfl) rfl rfl rfl rfl g1 (det_loadK rfl Try.isAgg3 rfl) ?_
    refine JA_gpd (i := 6) rfl (by kernel_rfl) rfl rfl rfl rfl g1 (det_fieldAddr rfl fo_53_1) ?_
    refine JA_gdt (i := 7) rfl (by kernel_rfl) (by kernel_rfl) rfl rfl rfl rfl g1 (det_loadK rfl Try.isAgg3 rfl) ?_
    refine JA_gpd (i := 8) rfl (by kernel_rfl) rfl rfl rfl rfl g1 (det_build rfl (bld_77_0_1 _ _)) ?_
    refine JA_gone (i := 9) (by kernel_rfl) rfl rfl rfl g1 rfl (jo_callv rfl rfl Try.call43 rfl (has_j at_ _ _ L (by omega))) (fun _ => ⟨hsub_refl, fun _ h => h⟩) fun _ => ?_
    refine JA_gpd (i := 10) rfl (by kernel_rfl) rfl rfl rfl rfl g1 (det_not rfl) ?_
    refine JA_pd (i := 11) rfl (by kernel_rfl) rfl rfl (det_pick_f rfl g1 rfl) ?_
    refine JA_pd (i := 12) rfl (by kernel_rfl) rfl rfl (det_move rfl) ?_
    refine JA_is (d0 := 52) false rfl (by (simp [hat])) (fun g2 => ?_)
    refine JA_gdt (i := 13) rfl (by kernel_rfl) (by kernel_rfl) rfl rfl rfl rfl g2 (det_loadKA rfl Try.isAgg26 Try.sizeOf26 rfl rfl) ?_
    refine JA_gpd (i := 15) rfl (by kernel_rfl) rfl rfl rfl rfl g2 (det_move rfl) ?_
    refine JA_gpd (i := 17) rfl (by kernel_rfl) rfl rfl rfl rfl g2 (det_fieldAddr rfl fo_53_0) ?_
    refine JA_gdt (i := 18) rfl (by kernel_rfl) (by kernel_rfl) rfl rfl rfl rfl g2 (det_loadK rfl Try.isAgg3 rfl) ?_
    refine JA_gpd (i := 19) rfl (by kernel_rfl) rfl rfl rfl rfl g2 (det_fieldAddr rfl fo_53_1) ?_
    refine JA_gdt (i := 20) rfl (by kernel_rfl) (by kernel_rfl) rfl rfl rfl rfl g2 (det_loadK rfl Try.isAgg3 rfl) ?_
    refine JA_gpd (i := 21) rfl (by kernel_rfl) rfl rfl rfl rfl g2 (det_build rfl (bld_77_0_1 _ _)) ?_
    refine JA_gone (i := 14) (by kernel_rfl) rfl rfl rfl g2 rfl (jo_call rfl rfl Try.call20 rfl (Machine_j m a (by omega) (by omega) (by omega))) (fun _ => ⟨hsub_drop 0 rfl, fun _ h => h.2⟩) fun x54 => ?_
    refine JA_gone (i := 16) (by kernel_rfl) rfl rfl rfl g2 rfl (jo_call rfl rfl Try.call35 rfl (lList_j sg _ _ (by omega))) (fun _ => ⟨hsub_drop 0 rfl, fun _ h => h.2⟩) fun x56 => ?_
    refine JA_gone (i := 22) (by kernel_rfl) rfl rfl rfl g2 rfl (jo_callv rfl rfl Try.call46 rfl (ProveRun_jo m x54 at_ x56.1 x56.2 sg he)) (fun _ => ⟨hsub_refl, fun _ h => h⟩) fun _ => ?_
    refine JA_gpd (i := 23) rfl (by kernel_rfl) rfl rfl rfl rfl g2 (det_not rfl) ?_
    refine JA_pd (i := 24) rfl (by kernel_rfl) rfl rfl (det_pick_f rfl g2 rfl) ?_
    refine JA_done (by kernel_rfl) ?_
    refine JE_seq ?_
    -- stop: cond
    refine JC_cond rfl (fun h2 => ?_) (fun h2 => ?_)
    · rw [hpr] at h2; cases h2
    · refine JC_skip ?_
      refine JE_seq ?_
      refine JC_seq ?_
      refine JC_region ?_
      refine JL_pd rfl (det_assign rfl) ?_
      refine JL_nil ?_
      refine JE_seq ?_
      refine JC_seq ?_
      refine JC_seq ?_
      refine JC_region ?_
      refine JL_pd rfl (det_assign rfl) ?_
      refine JL_nil ?_
      refine JE_seq ?_
      refine JC_block ?_
      -- stop: loop
      refine JC_keep b2 noFp ?_
      refine JC_loopF (γ := Nat) (fun i => i ≤ L.length ∧ (L.take i).any (dangerB m) = false) (fun i => [(12, I i), (11, .bool false)]) (fun _ => []) (fun i => L.length - i) 0 ⟨Nat.zero_le _, rfl⟩ (stsub_consI rfl rfl (stsub_cons rfl stsub_nil)) ht_nil ?_
      rintro i ⟨hi, hno⟩ K hK
      dsimp only [List.cons_append, List.nil_append]
      refine JC_seq ?_
      refine JC_seq ?_
      refine JC_region ?_
      refine JL_pd rfl (det_move rfl) ?_
      refine JL_pd rfl (det_move rfl) ?_
      refine JL_pd rfl (det_len rfl Try.runUnderlying36) ?_
      refine JL_pd rfl (det_lss rfl rfl) ?_
      refine JL_nil ?_
      refine JE_seq ?_
      -- stop: cond
      refine JC_if rfl (fun h3 => ?_) (fun h3 => ?_)
      · have hi2 : i < L.length := by omega
        have hdi : dangerB m L[i] = false := by
          cases hd : dangerB m L[i] with
          | false => rfl
          | true => have := List.any_eq_true.2 ⟨_, List.getElem_mem hi2, hd⟩; rw [hany] at this; cases this
        have hsn := any_snoc (p := dangerB m) hi2
        rw [hno, hdi] at hsn
        refine JC_skip ?_
        refine JE_seq ?_
        refine JC_seq ?_
        refine JC_block ?_
        refine JC_draw [] (by kernel_rfl) ?_
        refine JA_pd (i := 0) rfl (by kernel_rfl) rfl rfl (det_move rfl) ?_
        refine JA_pd (i := 1) rfl (by kernel_rfl) rfl rfl (det_move rfl) ?_
        -- stop: guard 1
        skip
        refine JA_is (d0 := 72) false rfl (by rfl) (fun g1 => ?_)
        refine JA_gdt (i := 2) rfl (by kernel_rfl) (by kernel_rfl) rfl rfl rfl rfl g1 (det_loadKA rfl Try.isAgg26 Try.sizeOf26 rfl rfl) ?_
        refine JA_gpd (i := 3) rfl (by kernel_rfl) rfl rfl rfl rfl g1 (det_move rfl) ?_
        refine JA_gpd (i := 4) rfl (by kernel_rfl) rfl rfl rfl rfl g1 (det_move rfl) ?_
        refine JA_gdt (i := 5) rfl (by kernel_rfl) (by kernel_rfl) rfl rfl rfl rfl g1 (det_indexAddr rfl rfl (by first | rfl | omega) (by first | assumption | omega | decide) Try.runUnderlying36 Try.sizeOf77) ?_
        refine JA_gpd (i := 6) rfl (by kernel_rfl) rfl rfl rfl rfl g1 (det_fieldAddrE rfl fo_77_0) ?_
        refine JA_gdt (i := 7) rfl (by kernel_rfl) (by kernel_rfl) rfl rfl rfl rfl g1 (det_loadEk rfl (by first | assumption | omega | decide) Try.isAgg3 rfl rfl) ?_
        refine JA_gpd (i := 8) rfl (by kernel_rfl) rfl rfl rfl rfl g1 (det_move rfl) ?_
        refine JA_gpd (i := 9) rfl (by kernel_rfl) rfl rfl rfl rfl g1 (det_move rfl) ?_
        refine JA_gdt (i := 10) rfl (by kernel_rfl) (by kernel_rfl) rfl rfl rfl rfl g1 (det_indexAddr rfl rfl (by first | rfl | omega) (by first | assumption | omega | decide) Try.runUnderlying36 Try.sizeOf77) ?_
        refine JA_gpd (i := 11) rfl (by kernel_rfl) rfl rfl rfl rfl g1 (det_fieldAddrE rfl fo_77_1) ?_
        refine JA_gdt (i := 12) rfl (by kernel_rfl) (by kernel_rfl) rfl rfl rfl rfl g1 (det_loadEk rfl (by first | assumption | omega | decide) Try.isAgg3 rfl rfl) ?_
        refine JA_gpd (i := 13) rfl (by kernel_rfl) rfl rfl rfl rfl g1 (det_build rfl (bld_53_0_1 _ _)) ?_
        refine JA_gone (i := 14) (by kernel_rfl) rfl rfl rfl g1 rfl (jo_callv rfl rfl Try.call50 rfl (IsDanger_j m a _ (by omega))) (fun _ => ⟨hsub_refl, fun _ h => h⟩) fun _ => ?_
        refine JA_pd (i := 15) rfl (by kernel_rfl) rfl rfl (det_pick_f rfl g1 rfl) ?_
        refine JA_pd (i := 16) rfl (by kernel_rfl) rfl rfl (det_assign rfl) ?_
        refine JA_done (by kernel_rfl) ?_
        refine JE_block ?_
        refine JE_seq ?_
        refine JC_region ?_
        refine JL_pd rfl (det_move rfl) ?_
        refine JL_pd rfl (det_add rfl rfl ⟨by omega, by omega⟩) ?_
        refine JL_pd rfl (det_assign rfl) ?_
        refine JL_nil ?_
        -- stop: end
        refine JE_roundF hK (i + 1) ⟨by omega, hsn⟩ (by omega) (stsub_consI rfl (by omega) (stsub_consB rfl hdi stsub_nil)) ht_nil
      · refine JC_exit ?_
        refine JE_seq_exit ?_
        refine JE_then_exit ?_
        refine JE_block_here ?_
        refine JE_seq ?_
        refine JC_seq ?_
        refine JC_seq ?_
        refine JC_region ?_
        refine JL_pd rfl (det_move rfl) ?_
        refine JL_pd rfl (det_neq rfl rfl) ?_
        refine JL_nil ?_
        refine JE_seq ?_
        -- stop: cond
        refine JC_ifn rfl (fun h4 => ?_) (fun h4 => ?_)
        · refine JC_seq ?_
          refine JC_region ?_
          refine JL_pd rfl (det_move rfl) ?_
          refine JL_pd rfl (det_eql rfl rfl) ?_
          refine JL_pd rfl (det_move rfl) ?_
          -- stop: guard 2
          refine JL_is (d0 := 91) true rfl (by (first | rfl | simp [hnd])) (fun h1 => ?_)
          refine JL_guard rfl rfl h1 ?_
          refine JL_pd rfl (det_move rfl) ?_
          refine JL_guard rfl rfl h1 ?_
          refine JL_pd rfl (det_not rfl) ?_
          refine JL_pd rfl (det_pick_t rfl h1 rfl) ?_
          refine JL_pd rfl (det_move rfl) ?_
          refine JL_is (d0 := 95) true rfl (by (first | rfl | simp [hnd])) (fun h2 => ?_)
          refine JL_guard rfl rfl h2 ?_
          refine JL_dt rfl (det_loadKA rfl Try.isAgg26 Try.sizeOf26 rfl rfl) ?_
          refine JL_guard rfl rfl h2 ?_
          refine JL_dt rfl (det_loadKA rfl Try.isAgg53 Try.sizeOf53 rfl rfl) ?_
          refine JL_guard rfl rfl h2 ?_
          refine JL_step rfl rfl rfl (jo_callv rfl rfl Try.call50 rfl (IsDanger_j m a _ (by omega))) fun _ => ?_
          refine JL_guard rfl rfl h2 ?_
          refine JL_pd rfl (det_not rfl) ?_
          refine JL_pd rfl (det_pick_t rfl h2 rfl) ?_
          refine JL_pd rfl (det_move rfl) ?_
          refine JL_is (d0 := 101) true rfl (by (first | rfl | simp [hnd])) (fun h3 => ?_)
          refine JL_guard rfl rfl h3 ?_
          refine JL_step rfl rfl rfl (jo_callv rfl rfl Try.call18 rfl (wakes_j)) fun _ => ?_
          refine JL_pd rfl (det_pick_t rfl h3 rfl) ?_
          refine JL_pd rfl (det_assign rfl) ?_
          refine JL_nil ?_
          refine JE_seq ?_
          refine JC_ret ?_
          refine JE_seq_ret ?_
          refine JE_out (.inl rfl) () (results1 Try.results15 (res_tmp rfl)) ?_ (List.Perm.refl _) (fun _ _ => trivial)
          rfl
        · cases h4
set_option maxRecDepth 100000 in
set_option maxHeartbeats 1000000 in
theorem CycleNever_s (m : Mc) (a : MA) (ws : List Int) (wa : Option Addr) (wc : Nat) (he : fault m = 0) (hw : wordsOk ws) (l : List Int) (hn : wayO m m.locks (dangerB m) = some l) : Cv Try.prog 15 [.agg #[I m.states, .slice a.sa m.steps.length a.sc, .slice a.ra m.running.length a.rc, .slice a.ka m.locks.length a.kc], .slice wa ws.length wc] (KAnd (KMc m a) (KSl wa ws.length wc encU ws)) (.bool true) := by
  have V := valid_of he
  have hl1 := V.ns; have hl2 := V.nl; have hl3 := V.nr; have s1 := V.s1; have s2 := V.s2
  have hrb := ready_of he
  have hspec := randS_spec (m := m) ws
  have hany := any_danger V
  rw [hn] at hany
  have W := wayO_yes V hn
  have hll := W.lt
  have hat : (randS m ws).2 ∈ reachL m m.locks := (mem_reachL V).2 (hspec.1.rch hspec.2.1 .zero)
  have hpr : inW (runW m (randS m ws).1) (randS m ws).2 = true := (inW_run V).2 hspec.1
  have hnd : dangerB m (randS m ws).2 = true → l.length ≤ (randS m ws).1.length := fun hd => W.dist.2 _ (hspec.1.pth hspec.2.1 hd)
  have hway : ∀ x, dangerB m x = true → (wayRes m x).1 = 0 → l.length ≤ (wayRes m x).2.length := fun x hd h0 => by
    unfold wayRes at h0 ⊢
    rw [if_pos he] at h0 ⊢
    split at h0
    · rename_i hr
      rw [if_pos hr]
      cases hx : wayO m m.locks (goalS x) with
      | none => rw [hx] at h0; simp at h0
      | some l' =>
        have W' := wayO_yes V hx
        obtain ⟨t, ht, hg⟩ := W'.run
        have : t = x := of_decide_eq_true hg
        subst this
        exact W.dist.2 _ (ht.pth W'.ok hd)
    · simp at h0
  have hleads : ∃ j : Nat, (j : Int) < m.states ∧ dangerB m ⟨j, 2⟩ = true ∧ inW (runW m l) ⟨j, 2⟩ = true := by
    obtain ⟨t, ht, hg⟩ := W.run
    obtain ⟨q1, q2, q3⟩ := danger_in V hg
    have e : (⟨((t.st.toNat : Nat) : Int), 2⟩ : Sd) = t := Sd.ext'.2 ⟨by simp only; omega, q1.symm⟩
    exact ⟨t.st.toNat, by omega, by rw [e]; exact hg, by rw [e]; exact (inW_run V).2 ht⟩
  have hrnd := Random_j m a ws wa wc he hw
  have hrl := reach_len m m.locks
  have hst := Stands_jo m
  generalize reachL m m.locks = L at hat hany hrl hst
  generalize randS m ws = Q at hspec hat hpr hnd hrnd
  obtain ⟨sg, at_⟩ := Q
  dsimp only at hspec hat hpr hnd hrnd
  refine Cx_of Try.func15 rfl Try.ntmps15 rfl fun w0 M0 => ?_
  refine JC_seq ?_
  refine JC_region ?_
  refine JL_step rfl rfl rfl (jo_box rfl rfl) fun b2 => ?_
  refine JL_pd rfl (det_assign rfl) ?_
  refine JL_nil ?_
  refine JE_seq ?_
  refine JC_seq ?_
  refine JC_seq ?_
  refine JC_region ?_
  refine JL_dt rfl (det_loadKA rfl Try.isAgg26 Try.sizeOf26 rfl rfl) ?_
  refine JL_step rfl rfl rfl (jo_callv rfl rfl Try.call38 rfl (ready_j m a)) fun _ => ?_
  refine JL_pd rfl (det_not rfl) ?_
  refine JL_nil ?_
  refine JE_seq ?_
  -- stop: cond
  refine JC_cond rfl (fun h1 => ?_) (fun h1 => ?_)
  · rw [hrb] at h1; cases h1
  · refine JC_skip ?_
    refine JE_seq ?_
    refine JC_seq ?_
    refine JC_region ?_
    refine JL_dt rfl (det_loadKA rfl Try.isAgg26 Try.sizeOf26 rfl rfl) ?_
    refine JL_pd rfl (det_move rfl) ?_
    refine JL_step rfl rfl rfl (jo_call rfl rfl Try.call45 rfl (hrnd)) fun x25 => ?_
    refine JL_pd rfl (det_move rfl) ?_
    refine JL_pd rfl (det_extract rfl rfl) ?_
    refine JL_pd rfl (det_extract rfl rfl) ?_
    refine JL_step rfl rfl rfl (jo_alloc0 Try.zeroValue53 rfl) fun b6 => ?_
    refine JL_pd rfl (det_assign rfl) ?_
    refine JL_step0 rfl rfl (jo_store rfl rfl rfl (by first | (simp only [splice_norm]; done) | (simp only [splice_norm]; rfl) | rfl) Try.sizeOf53 rfl rfl) fun _ => ?_
    refine JL_nil ?_
    refine JE_seq ?_
    refine JC_seq ?_
    refine JC_region ?_
    refine JL_keep b6 noFp ?_
    refine JL_dt rfl (det_loadKA rfl Try.isAgg26 Try.sizeOf26 rfl rfl) ?_
    refine JL_step rfl rfl rfl (jo_call rfl rfl Try.call20 rfl (Machine_j m a (by omega) (by omega) (by omega))) fun x30 => ?_
    refine JL_step rfl rfl rfl (jo_call rfl rfl Try.call26 rfl (Danger_js m x30 he l hn)) fun x31 => ?_
    refine JL_pd rfl (det_move rfl) ?_
    refine JL_pd rfl (det_extract rfl rfl) ?_
    refine JL_pd rfl (det_extract rfl rfl) ?_
    refine JL_pd rfl (det_assign rfl) ?_
    refine JL_pd rfl (det_assign rfl) ?_
    refine JL_nil ?_
    refine JE_seq ?_
    refine JC_seq ?_
    refine JC_region ?_
    refine JL_dt rfl (det_loadKA rfl Try.isAgg26 Try.sizeOf26 rfl rfl) ?_
    refine JL_step rfl rfl rfl (jo_call rfl rfl Try.call20 rfl (Machine_j m a (by omega) (by omega) (by omega))) fun x36 => ?_
    refine JL_step rfl rfl rfl (jo_call rfl rfl Try.call21 rfl (hst x36 he)) fun x37 => ?_
    refine JL_pd rfl (det_move rfl) ?_
    refine JL_pd rfl (det_extract rfl rfl) ?_
    refine JL_pd rfl (det_extract rfl rfl) ?_
    refine JL_pd rfl (det_assign rfl) ?_
    refine JL_pd rfl (det_assign rfl) ?_
    refine JL_nil ?_
    refine JE_seq ?_
    refine JC_seq ?_
    refine JC_seq ?_
    refine JC_draw [] (by kernel_rfl) ?_
    refine JA_pd (i := 0) rfl (by kernel_rfl) rfl rfl (det_move rfl) ?_
    refine JA_pd (i := 1) rfl (by kernel_rfl) rfl rfl (det_neq rfl rfl) ?_
    refine JA_pd (i := 2) rfl (by kernel_rfl) rfl rfl (det_move rfl) ?_
    -- stop: guard 2
    skip
    refine JA_is (d0 := 42) false rfl (by (simp [hat])) (fun g1 => ?_)
    refine JA_gpd (i := 3) rfl (by kernel_rfl) rfl rfl rfl rfl g1 (det_move rfl) ?_
    refine JA_gpd (i := 4) rfl (by kernel_rfl) rfl rfl rfl rfl g1 (det_fieldAddr rfl fo_53_0) ?_
    refine JA_gdt (i := 5) rfl (by kernel_rfl) (by kernel_rfl) rfl rfl rfl rfl g1 (det_loadK rfl Try.isAgg3 rfl) ?_
    refine JA_gpd (i := 6) rfl (by kernel_rfl) rfl rfl rfl rfl g1 (det_fieldAddr rfl fo_53_1) ?_
    refine JA_gdt (i := 7) rfl (by kernel_rfl) (by kernel_rfl) rfl rfl rfl rfl g1 (det_loadK rfl Try.isAgg3 rfl) ?_
    refine JA_gpd (i := 8) rfl (by kernel_rfl) rfl rfl rfl rfl g1 (det_build rfl (bld_77_0_1 _ _)) ?_
    refine JA_gone (i := 9) (by kernel_rfl) rfl rfl rfl g1 rfl (jo_callv rfl rfl Try.call43 rfl (has_j at_ _ _ L (by omega))) (fun _ => ⟨hsub_refl, fun _ h => h⟩) fun _ => ?_
    refine JA_gpd (i := 10) rfl (by kernel_rfl) rfl rfl rfl rfl g1 (det_not rfl) ?_
    refine JA_pd (i := 11) rfl (by kernel_rfl) rfl rfl (det_pick_f rfl g1 rfl) ?_
    refine JA_pd (i := 12) rfl (by kernel_rfl) rfl rfl (det_move rfl) ?_
    refine JA_is (d0 := 52) false rfl (by (simp [hat])) (fun g2 => ?_)
    refine JA_gdt (i := 13) rfl (by kernel_rfl) (by kernel_rfl) rfl rfl rfl rfl g2 (det_loadKA rfl Try.isAgg26 Try.sizeOf26 rfl rfl) ?_
    refine JA_gpd (i := 15) rfl (by kernel_rfl) rfl rfl rfl rfl g2 (det_move rfl) ?_
    refine JA_gpd (i := 17) rfl (by kernel_rfl) rfl rfl rfl rfl g2 (det_fieldAddr rfl fo_53_0) ?_
    refine JA_gdt (i := 18) rfl (by kernel_rfl) (by kernel_rfl) rfl rfl rfl rfl g2 (det_loadK rfl Try.isAgg3 rfl) ?_
    refine JA_gpd (i := 19) rfl (by kernel_rfl) rfl rfl rfl rfl g2 (det_fieldAddr rfl fo_53_1) ?_
    refine JA_gdt (i := 20) rfl (by kernel_rfl) (by kernel_rfl) rfl rfl rfl rfl g2 (det_loadK rfl Try.isAgg3 rfl) ?_
    refine JA_gpd (i := 21) rfl (by kernel_rfl) rfl rfl rfl rfl g2 (det_build rfl (bld_77_0_1 _ _)) ?_
    refine JA_gone (i := 14) (by kernel_rfl) rfl rfl rfl g2 rfl (jo_call rfl rfl Try.call20 rfl (Machine_j m a (by omega) (by omega) (by omega))) (fun _ => ⟨hsub_drop 0 rfl, fun _ h => h.2⟩) fun x54 => ?_
    refine JA_gone (i := 16) (by kernel_rfl) rfl rfl rfl g2 rfl (jo_call rfl rfl Try.call35 rfl (lList_j sg _ _ (by omega))) (fun _ => ⟨hsub_drop 0 rfl, fun _ h => h.2⟩) fun x56 => ?_
    refine JA_gone (i := 22) (by kernel_rfl) rfl rfl rfl g2 rfl (jo_callv rfl rfl Try.call46 rfl (ProveRun_jo m x54 at_ x56.1 x56.2 sg he)) (fun _ => ⟨hsub_refl, fun _ h => h⟩) fun _ => ?_
    refine JA_gpd (i := 23) rfl (by kernel_rfl) rfl rfl rfl rfl g2 (det_not rfl) ?_
    refine JA_pd (i := 24) rfl (by kernel_rfl) rfl rfl (det_pick_f rfl g2 rfl) ?_
    refine JA_done (by kernel_rfl) ?_
    refine JE_seq ?_
    -- stop: cond
    refine JC_cond rfl (fun h2 => ?_) (fun h2 => ?_)
    · rw [hpr] at h2; cases h2
    · refine JC_skip ?_
      refine JE_seq ?_
      refine JC_seq ?_
      refine JC_region ?_
      refine JL_pd rfl (det_assign rfl) ?_
      refine JL_nil ?_
      refine JE_seq ?_
      refine JC_seq ?_
      refine JC_seq ?_
      refine JC_region ?_
      refine JL_pd rfl (det_assign rfl) ?_
      refine JL_nil ?_
      refine JE_seq ?_
      refine JC_block ?_
      -- stop: loop
      refine JC_keep b2 noFp ?_
      refine JC_loopF (γ := Nat) (fun i => i ≤ L.length) (fun i => [(12, I i), (11, .bool ((L.take i).any (dangerB m)))]) (fun _ => []) (fun i => L.length - i) 0 (Nat.zero_le _) (stsub_consI rfl rfl (stsub_cons rfl stsub_nil)) ht_nil ?_
      rintro i hi K hK
      dsimp only [List.cons_append, List.nil_append]
      refine JC_seq ?_
      refine JC_seq ?_
      refine JC_region ?_
      refine JL_pd rfl (det_move rfl) ?_
      refine JL_pd rfl (det_move rfl) ?_
      refine JL_pd rfl (det_len rfl Try.runUnderlying36) ?_
      refine JL_pd rfl (det_lss rfl rfl) ?_
      refine JL_nil ?_
      refine JE_seq ?_
      -- stop: cond
      refine JC_if rfl (fun h3 => ?_) (fun h3 => ?_)
      · have hi2 : i < L.length := by omega
        have hsn := any_snoc (p := dangerB m) hi2
        refine JC_skip ?_
        refine JE_seq ?_
        refine JC_seq ?_
        refine JC_block ?_
        refine JC_draw [] (by kernel_rfl) ?_
        refine JA_pd (i := 0) rfl (by kernel_rfl) rfl rfl (det_move rfl) ?_
        refine JA_pd (i := 1) rfl (by kernel_rfl) rfl rfl (det_move rfl) ?_
        -- stop: guard 1
        refine JA_split (d0 := 72) rfl (fun k1 => ?_) (fun k1 => ?_)
        · rw [k1, Bool.true_or] at hsn
          refine JA_skip (i := 2) rfl (by kernel_rfl) rfl rfl rfl rfl k1 ?_
          refine JA_skip (i := 3) rfl (by kernel_rfl) rfl rfl rfl rfl k1 ?_
          refine JA_skip (i := 4) rfl (by kernel_rfl) rfl rfl rfl rfl k1 ?_
          refine JA_skip (i := 5) rfl (by kernel_rfl) rfl rfl rfl rfl k1 ?_
          refine JA_skip (i := 6) rfl (by kernel_rfl) rfl rfl rfl rfl k1 ?_
          refine JA_skip (i := 7) rfl (by kernel_rfl) rfl rfl rfl rfl k1 ?_
          refine JA_skip (i := 8) rfl (by kernel_rfl) rfl rfl rfl rfl k1 ?_
          refine JA_skip (i := 9) rfl (by kernel_rfl) rfl rfl rfl rfl k1 ?_
          refine JA_skip (i := 10) rfl (by kernel_rfl) rfl rfl rfl rfl k1 ?_
          refine JA_skip (i := 11) rfl (by kernel_rfl) rfl rfl rfl rfl k1 ?_
          refine JA_skip (i := 12) rfl (by kernel_rfl) rfl rfl rfl rfl k1 ?_
          refine JA_skip (i := 13) rfl (by kernel_rfl) rfl rfl rfl rfl k1 ?_
          refine JA_skip (i := 14) rfl (by kernel_rfl) rfl rfl rfl rfl k1 ?_
          refine JA_pd (i := 15) rfl (by kernel_rfl) rfl rfl (det_pick_t rfl k1 rfl) ?_
          refine JA_pd (i := 16) rfl (by kernel_rfl) rfl rfl (det_assign rfl) ?_
          refine JA_done (by kernel_rfl) ?_
          refine JE_block ?_
          refine JE_seq ?_
          refine JC_region ?_
          refine JL_pd rfl (det_move rfl) ?_
          refine JL_pd rfl (det_add rfl rfl ⟨by omega, by omega⟩) ?_
          refine JL_pd rfl (det_assign rfl) ?_
          refine JL_nil ?_
          -- stop: end
          refine JE_roundF hK (i + 1) (by omega) (by omega) (stsub_consI rfl (by omega) (stsub_consB rfl hsn.symm stsub_nil)) ht_nil
        · rw [k1, Bool.false_or] at hsn
          refine JA_gdt (i := 2) rfl (by kernel_rfl) (by kernel_rfl) rfl rfl rfl rfl k1 (det_loadKA rfl Try.isAgg26 Try.sizeOf26 rfl rfl) ?_
          refine JA_gpd (i := 3) rfl (by kernel_rfl) rfl rfl rfl rfl k1 (det_move rfl) ?_
          refine JA_gpd (i := 4) rfl (by kernel_rfl) rfl rfl rfl rfl k1 (det_move rfl) ?_
          refine JA_gdt (i := 5) rfl (by kernel_rfl) (by kernel_rfl) rfl rfl rfl rfl k1 (det_indexAddr rfl rfl (by first | rfl | omega) (by first | assumption | omega | decide) Try.runUnderlying36 Try.sizeOf77) ?_
          refine JA_gpd (i := 6) rfl (by kernel_rfl) rfl rfl rfl rfl k1 (det_fieldAddrE rfl fo_77_0) ?_
          refine JA_gdt (i := 7) rfl (by kernel_rfl) (by kernel_rfl) rfl rfl rfl rfl k1 (det_loadEk rfl (by first | assumption | omega | decide) Try.isAgg3 rfl rfl) ?_
          refine JA_gpd (i := 8) rfl (by kernel_rfl) rfl rfl rfl rfl k1 (det_move rfl) ?_
          refine JA_gpd (i := 9) rfl (by kernel_rfl) rfl rfl rfl rfl k1 (det_move rfl) ?_
          refine JA_gdt (i := 10) rfl (by kernel_rfl) (by kernel_rfl) rfl rfl rfl rfl k1 (det_indexAddr rfl rfl (by first | rfl | omega) (by first | assumption | omega | decide) Try.runUnderlying36 Try.sizeOf77) ?_
          refine JA_gpd (i := 11) rfl (by kernel_rfl) rfl rfl rfl rfl k1 (det_fieldAddrE rfl fo_77_1) ?_
          refine JA_gdt (i := 12) rfl (by kernel_rfl) (by kernel_rfl) rfl rfl rfl rfl k1 (det_loadEk rfl (by first | assumption | omega | decide) Try.isAgg3 rfl rfl) ?_
          refine JA_gpd (i := 13) rfl (by kernel_rfl) rfl rfl rfl rfl k1 (det_build rfl (bld_53_0_1 _ _)) ?_
          refine JA_gone (i := 14) (by kernel_rfl) rfl rfl rfl k1 rfl (jo_callv rfl rfl Try.call50 rfl (IsDanger_j m a _ (by omega))) (fun _ => ⟨hsub_refl, fun _ h => h⟩) fun _ => ?_
          refine JA_pd (i := 15) rfl (by kernel_rfl) rfl rfl (det_pick_f rfl k1 rfl) ?_
          refine JA_pd (i := 16) rfl (by kernel_rfl) rfl rfl (det_assign rfl) ?_
          refine JA_done (by kernel_rfl) ?_
          refine JE_block ?_
          refine JE_seq ?_
          refine JC_region ?_
          refine JL_pd rfl (det_move rfl) ?_
          refine JL_pd rfl (det_add rfl rfl ⟨by omega, by omega⟩) ?_
          refine JL_pd rfl (det_assign rfl) ?_
          refine JL_nil ?_
          -- stop: end
          refine JE_roundF hK (i + 1) (by omega) (by omega) (stsub_consI rfl (by omega) (stsub_consB rfl hsn.symm stsub_nil)) ht_nil
      · obtain rfl : i = L.length := by omega
        rw [List.take_length, hany]
        refine JC_exit ?_
        refine JE_seq_exit ?_
        refine JE_then_exit ?_
        refine JE_block_here ?_
        refine JE_seq ?_
        refine JC_seq ?_
        refine JC_seq ?_
        refine JC_region ?_
        refine JL_pd rfl (det_move rfl) ?_
        refine JL_pd rfl (det_neq rfl rfl) ?_
        refine JL_nil ?_
        refine JE_seq ?_
        -- stop: cond
        refine JC_ifn rfl (fun h4 => ?_) (fun h4 => ?_)
        · exact absurd rfl h4
        · refine JC_skip ?_
          refine JE_seq ?_
          refine JC_seq ?_
          refine JC_seq ?_
          refine JC_region ?_
          refine JL_pd rfl (det_move rfl) ?_
          refine JL_pd rfl (det_not rfl) ?_
          refine JL_pd rfl (det_move rfl) ?_
          -- stop: guard 2
          refine JL_is (d0 := 106) false rfl (by rfl) (fun g1 => ?_)
          refine JL_guard rfl rfl g1 ?_
          refine JL_pd rfl (det_move rfl) ?_
          refine JL_guard rfl rfl g1 ?_
          refine JL_pd rfl (det_len rfl Try.runUnderlying23) ?_
          refine JL_guard rfl rfl g1 ?_
          refine JL_pd rfl (det_gtr rfl rfl) ?_
          refine JL_pd rfl (det_pick_f rfl g1 rfl) ?_
          refine JL_pd rfl (det_move rfl) ?_
          -- stop: guard 7
          refine JL_is (d0 := 111) false rfl (by exact decide_eq_false (by omega)) (fun g2 => ?_)
          refine JL_guard rfl rfl g2 ?_
          refine JL_dt rfl (det_loadKA rfl Try.isAgg26 Try.sizeOf26 rfl rfl) ?_
          refine JL_guard rfl rfl g2 ?_
          refine JL_dt rfl (det_loadKA rfl Try.isAgg53 Try.sizeOf53 rfl rfl) ?_
          refine JL_guard rfl rfl g2 ?_
          refine JL_step rfl rfl rfl (jo_callv rfl rfl Try.call50 rfl (IsDanger_j m a _ (by omega))) fun _ => ?_
          refine JL_guard rfl rfl g2 ?_
          refine JL_pd rfl (det_move rfl) ?_
          -- stop: guard 11
          refine JL_join1 7 122 (.bool false) (fun hj => ?_) ?_
          · refine JL_split (d0 := 115) rfl (fun q4 => ?_) (fun q4 => ?_)
            · refine JL_guard rfl rfl q4 ?_
              refine JL_pd rfl (det_move rfl) ?_
              refine JL_guard rfl rfl q4 ?_
              refine JL_pd rfl (det_len rfl Try.runUnderlying23) ?_
              refine JL_guard rfl rfl q4 ?_
              refine JL_pd rfl (det_move rfl) ?_
              refine JL_guard rfl rfl q4 ?_
              refine JL_pd rfl (det_len rfl Try.runUnderlying23) ?_
              refine JL_guard rfl rfl q4 ?_
              refine JL_pd rfl (det_lss rfl rfl) ?_
              refine JL_guard rfl rfl g2 ?_
              refine JL_pd rfl (det_pick_t rfl q4 rfl) ?_
              refine JL_pd rfl (det_pick_f rfl g2 rfl) ?_
              exact hj (by kernel_rfl) (stsub_consB rfl (by clear hj; first | rfl | exact decide_eq_false (by have := hnd (by assumption); omega) | simp_all) stsub_nil)
            · refine JL_skip rfl rfl q4 rfl ?_
              refine JL_skip rfl rfl q4 rfl ?_
              refine JL_skip rfl rfl q4 rfl ?_
              refine JL_skip rfl rfl q4 rfl ?_
              refine JL_skip rfl rfl q4 rfl ?_
              refine JL_guard rfl rfl g2 ?_
              refine JL_pd rfl (det_pick_f rfl q4 rfl) ?_
              refine JL_pd rfl (det_pick_f rfl g2 rfl) ?_
              exact hj (by kernel_rfl) (stsub_consB rfl (by clear hj; first | rfl | exact decide_eq_false (by have := hnd (by assumption); omega) | simp_all) stsub_nil)
          refine JL_nil ?_
          refine JE_seq ?_
          -- stop: cond
          refine JC_cond rfl (fun h5 => ?_) (fun h5 => ?_)
          · cases h5
          · refine JC_skip ?_
            refine JE_seq ?_
            refine JC_seq ?_
            refine JC_region ?_
            refine JL_pd rfl (det_assign rfl) ?_
            refine JL_nil ?_
            refine JE_seq ?_
            refine JC_seq ?_
            refine JC_seq ?_
            refine JC_region ?_
            refine JL_pd rfl (det_assign rfl) ?_
            refine JL_nil ?_
            refine JE_seq ?_
            refine JC_block ?_
            -- stop: loop
            refine JC_loopF (γ := Nat) (fun i => (i : Int) ≤ m.states) (fun i => [(14, I i), (13, .bool ((List.range i).any fun j => dangerB m ⟨(j : Int), 2⟩ && inW (runW m l) ⟨(j : Int), 2⟩))]) (fun _ => []) (fun i => 8 - i) 0 (show ((0 : Nat) : Int) ≤ m.states by omega) (stsub_consI rfl rfl (stsub_cons rfl stsub_nil)) ht_nil ?_
            rintro i hi K5 hK5
            dsimp only [List.cons_append, List.nil_append]
            have hsn : ((List.range (i + 1)).any fun j => dangerB m ⟨(j : Int), 2⟩ && inW (runW m l) ⟨(j : Int), 2⟩) = (((List.range i).any fun j => dangerB m ⟨(j : Int), 2⟩ && inW (runW m l) ⟨(j : Int), 2⟩) || (dangerB m ⟨(i : Int), 2⟩ && inW (runW m l) ⟨(i : Int), 2⟩)) := by
              rw [List.range_succ, List.any_append]; simp
            have hfin : (i : Int) = m.states → ((List.range i).any fun j => dangerB m ⟨(j : Int), 2⟩ && inW (runW m l) ⟨(j : Int), 2⟩) = true := fun e => by
              obtain ⟨j, q1, q2, q3⟩ := hleads
              rw [List.any_eq_true]
              exact ⟨j, List.mem_range.2 (by omega), by rw [q2, q3]; rfl⟩
            generalize ((List.range i).any fun j => dangerB m ⟨(j : Int), 2⟩ && inW (runW m l) ⟨(j : Int), 2⟩) = B at hsn hfin
            refine JC_seq ?_
            refine JC_seq ?_
            refine JC_region ?_
            refine JL_pd rfl (det_move rfl) ?_
            refine JL_pd rfl (det_fieldAddr rfl fo_26_0) ?_
            refine JL_dt rfl (det_loadK rfl Try.isAgg3 rfl) ?_
            refine JL_pd rfl (det_lss rfl rfl) ?_
            refine JL_nil ?_
            refine JE_seq ?_
            -- stop: cond
            refine JC_if rfl (fun h6 => ?_) (fun h6 => ?_)
            · refine JC_skip ?_
              refine JE_seq ?_
              refine JC_seq ?_
              refine JC_block ?_
              refine JC_seq ?_
              refine JC_region ?_
              refine JL_pd rfl (det_move rfl) ?_
              refine JL_pd rfl (det_build rfl (bld_77_0_1 _ _)) ?_
              refine JL_step rfl rfl rfl (jo_alloc0 Try.zeroValue77 rfl) fun b15 => ?_
              refine JL_step0 rfl rfl (jo_store rfl rfl rfl (by first | (simp only [splice_norm]; done) | (simp only [splice_norm]; rfl) | rfl) Try.sizeOf77 rfl rfl) fun _ => ?_
              refine JL_nil ?_
              refine JE_seq ?_
              refine JC_seq ?_
              refine JC_seq ?_
              refine JC_region ?_
              refine JL_dt rfl (det_loadKA rfl Try.isAgg26 Try.sizeOf26 rfl rfl) ?_
              refine JL_pd rfl (det_move rfl) ?_
              refine JL_pd rfl (det_build rfl (bld_53_0_1 _ _)) ?_
              refine JL_step rfl rfl rfl (jo_callv rfl rfl Try.call50 rfl (IsDanger_j m a ⟨(i : Int), 2⟩ (by omega))) fun _ => ?_
              refine JL_pd rfl (det_not rfl) ?_
              refine JL_nil ?_
              refine JE_seq ?_
              -- stop: cond
              refine JC_cond rfl (fun h7 => ?_) (fun h7 => ?_)
              · have h7' : dangerB m ⟨(i : Int), 2⟩ = false := by simpa using h7
                rw [h7', Bool.false_and, Bool.or_false] at hsn
                refine JC_exit ?_
                refine JE_seq_exit ?_
                refine JE_block_here ?_
                refine JE_seq ?_
                refine JC_region ?_
                refine JL_pd rfl (det_move rfl) ?_
                refine JL_pd rfl (det_add rfl rfl ⟨by omega, by omega⟩) ?_
                refine JL_pd rfl (det_assign rfl) ?_
                refine JL_nil ?_
                -- stop: end
                refine JE_roundF hK5 (i + 1) (by omega) (by omega) (stsub_consI rfl (by omega) (stsub_consB rfl hsn.symm stsub_nil)) ht_nil
              · have h7' : dangerB m ⟨(i : Int), 2⟩ = true := by simpa using h7
                have hwi := hway _ h7'
                rw [h7', Bool.true_and] at hsn
                refine JC_skip ?_
                refine JE_seq ?_
                refine JC_seq ?_
                refine JC_draw [] (by kernel_rfl) ?_
                refine JA_pd (i := 0) rfl (by kernel_rfl) rfl rfl (det_move rfl) ?_
                refine JA_pd (i := 1) rfl (by kernel_rfl) rfl rfl (det_move rfl) ?_
                -- stop: guard 1
                refine JA_split (d0 := 137) rfl (fun k8 => ?_) (fun k8 => ?_)
                · rw [k8, Bool.true_or] at hsn
                  refine JA_skip (i := 2) rfl (by kernel_rfl) rfl rfl rfl rfl k8 ?_
                  refine JA_skip (i := 3) rfl (by kernel_rfl) rfl rfl rfl rfl k8 ?_
                  refine JA_skip (i := 4) rfl (by kernel_rfl) rfl rfl rfl rfl k8 ?_
                  refine JA_skip (i := 5) rfl (by kernel_rfl) rfl rfl rfl rfl k8 ?_
                  refine JA_skip (i := 6) rfl (by kernel_rfl) rfl rfl rfl rfl k8 ?_
                  refine JA_skip (i := 7) rfl (by kernel_rfl) rfl rfl rfl rfl k8 ?_
                  refine JA_pd (i := 8) rfl (by kernel_rfl) rfl rfl (det_pick_t rfl k8 rfl) ?_
                  refine JA_pd (i := 9) rfl (by kernel_rfl) rfl rfl (det_assign rfl) ?_
                  refine JA_done (by kernel_rfl) ?_
                  refine JE_seq ?_
                  refine JC_seq ?_
                  refine JC_draw [] (by kernel_rfl) ?_
                  refine JA_dt (i := 0) rfl (by kernel_rfl) (by kernel_rfl) rfl rfl (det_loadKA rfl Try.isAgg26 Try.sizeOf26 rfl rfl) ?_
                  refine JA_dt (i := 2) rfl (by kernel_rfl) (by kernel_rfl) rfl rfl (det_loadKA rfl Try.isAgg77 Try.sizeOf77 rfl rfl) ?_
                  refine JA_one (i := 1) (by kernel_rfl) rfl rfl (jo_call rfl rfl Try.call20 rfl (Machine_j m a (by omega) (by omega) (by omega))) (fun _ => ⟨hsub_drop 0 rfl, fun _ h => h.2⟩) fun x147 => ?_
                  refine JA_one (i := 3) (by kernel_rfl) rfl rfl (jo_call rfl rfl Try.call44 rfl (Way_j m x147 ⟨(i : Int), 2⟩)) (fun _ => ⟨hsub_drop 0 rfl, fun _ h => h.2⟩) fun x149 => ?_
                  refine JA_pd (i := 4) rfl (by kernel_rfl) rfl rfl (det_move rfl) ?_
                  refine JA_pd (i := 5) rfl (by kernel_rfl) rfl rfl (det_extract rfl rfl) ?_
                  refine JA_pd (i := 6) rfl (by kernel_rfl) rfl rfl (det_extract rfl rfl) ?_
                  refine JA_pd (i := 7) rfl (by kernel_rfl) rfl rfl (det_assign rfl) ?_
                  refine JA_pd (i := 8) rfl (by kernel_rfl) rfl rfl (det_assign rfl) ?_
                  refine JA_done (by kernel_rfl) ?_
                  refine JE_seq ?_
                  refine JC_seq ?_
                  refine JC_region ?_
                  refine JL_pd rfl (det_move rfl) ?_
                  refine JL_pd rfl (det_eql rfl rfl) ?_
                  refine JL_pd rfl (det_move rfl) ?_
                  -- stop: guard 2
                  refine JL_split (d0 := 154) rfl (fun k9 => ?_) (fun k9 => ?_)
                  · have k9' := hwi (of_decide_eq_true k9)
                    refine JL_guard rfl rfl k9 ?_
                    refine JL_pd rfl (det_move rfl) ?_
                    refine JL_guard rfl rfl k9 ?_
                    refine JL_pd rfl (det_len rfl Try.runUnderlying23) ?_
                    refine JL_guard rfl rfl k9 ?_
                    refine JL_pd rfl (det_move rfl) ?_
                    refine JL_guard rfl rfl k9 ?_
                    refine JL_pd rfl (det_len rfl Try.runUnderlying23) ?_
                    refine JL_guard rfl rfl k9 ?_
                    refine JL_pd rfl (det_lss rfl rfl) ?_
                    refine JL_pd rfl (det_pick_t rfl k9 rfl) ?_
                    refine JL_nil ?_
                    refine JE_seq ?_
                    -- stop: cond
                    refine JC_if rfl (fun h10 => ?_) (fun h10 => ?_)
                    · omega
                    · refine JC_skip ?_
                      refine JE_block ?_
                      refine JE_seq ?_
                      refine JC_region ?_
                      refine JL_pd rfl (det_move rfl) ?_
                      refine JL_pd rfl (det_add rfl rfl ⟨by omega, by omega⟩) ?_
                      refine JL_pd rfl (det_assign rfl) ?_
                      refine JL_nil ?_
                      -- stop: end
                      refine JE_roundF hK5 (i + 1) (by omega) (by omega) (stsub_consI rfl (by omega) (stsub_consB rfl hsn.symm stsub_nil)) ht_nil
                  · refine JL_skip rfl rfl k9 rfl ?_
                    refine JL_skip rfl rfl k9 rfl ?_
                    refine JL_skip rfl rfl k9 rfl ?_
                    refine JL_skip rfl rfl k9 rfl ?_
                    refine JL_skip rfl rfl k9 rfl ?_
                    refine JL_pd rfl (det_pick_f rfl k9 rfl) ?_
                    refine JL_nil ?_
                    refine JE_seq ?_
                    -- stop: cond
                    refine JC_cond rfl (fun h10 => ?_) (fun h10 => ?_)
                    · cases h10
                    · refine JC_skip ?_
                      refine JE_block ?_
                      refine JE_seq ?_
                      refine JC_region ?_
                      refine JL_pd rfl (det_move rfl) ?_
                      refine JL_pd rfl (det_add rfl rfl ⟨by omega, by omega⟩) ?_
                      refine JL_pd rfl (det_assign rfl) ?_
                      refine JL_nil ?_
                      -- stop: end
                      refine JE_roundF hK5 (i + 1) (by omega) (by omega) (stsub_consI rfl (by omega) (stsub_consB rfl hsn.symm stsub_nil)) ht_nil
                · rw [k8, Bool.false_or] at hsn
                  refine JA_gdt (i := 2) rfl (by kernel_rfl) (by kernel_rfl) rfl rfl rfl rfl k8 (det_loadKA rfl Try.isAgg26 Try.sizeOf26 rfl rfl) ?_
                  refine JA_gpd (i := 4) rfl (by kernel_rfl) rfl rfl rfl rfl k8 (det_move rfl) ?_
                  refine JA_gdt (i := 6) rfl (by kernel_rfl) (by kernel_rfl) rfl rfl rfl rfl k8 (det_loadKA rfl Try.isAgg77 Try.sizeOf77 rfl rfl) ?_
                  refine JA_gone (i := 3) (by kernel_rfl) rfl rfl rfl k8 rfl (jo_call rfl rfl Try.call20 rfl (Machine_j m a (by omega) (by omega) (by omega))) (fun _ => ⟨hsub_drop 0 rfl, fun _ h => h.2⟩) fun x139 => ?_
                  refine JA_gone (i := 5) (by kernel_rfl) rfl rfl rfl k8 rfl (jo_call rfl rfl Try.call35 rfl (lList_j l _ _ (by omega))) (fun _ => ⟨hsub_drop 0 rfl, fun _ h => h.2⟩) fun x141 => ?_
                  refine JA_gone (i := 7) (by kernel_rfl) rfl rfl rfl k8 rfl (jo_callv rfl rfl Try.call46 rfl (ProveRun_jo m x139 ⟨(i : Int), 2⟩ x141.1 x141.2 l he)) (fun _ => ⟨hsub_refl, fun _ h => h⟩) fun _ => ?_
                  refine JA_pd (i := 8) rfl (by kernel_rfl) rfl rfl (det_pick_f rfl k8 rfl) ?_
                  refine JA_pd (i := 9) rfl (by kernel_rfl) rfl rfl (det_assign rfl) ?_
                  refine JA_done (by kernel_rfl) ?_
                  refine JE_seq ?_
                  refine JC_seq ?_
                  refine JC_draw [] (by kernel_rfl) ?_
                  refine JA_dt (i := 0) rfl (by kernel_rfl) (by kernel_rfl) rfl rfl (det_loadKA rfl Try.isAgg26 Try.sizeOf26 rfl rfl) ?_
                  refine JA_dt (i := 2) rfl (by kernel_rfl) (by kernel_rfl) rfl rfl (det_loadKA rfl Try.isAgg77 Try.sizeOf77 rfl rfl) ?_
                  refine JA_one (i := 1) (by kernel_rfl) rfl rfl (jo_call rfl rfl Try.call20 rfl (Machine_j m a (by omega) (by omega) (by omega))) (fun _ => ⟨hsub_drop 0 rfl, fun _ h => h.2⟩) fun x147 => ?_
                  refine JA_one (i := 3) (by kernel_rfl) rfl rfl (jo_call rfl rfl Try.call44 rfl (Way_j m x147 ⟨(i : Int), 2⟩)) (fun _ => ⟨hsub_drop 0 rfl, fun _ h => h.2⟩) fun x149 => ?_
                  refine JA_pd (i := 4) rfl (by kernel_rfl) rfl rfl (det_move rfl) ?_
                  refine JA_pd (i := 5) rfl (by kernel_rfl) rfl rfl (det_extract rfl rfl) ?_
                  refine JA_pd (i := 6) rfl (by kernel_rfl) rfl rfl (det_extract rfl rfl) ?_
                  refine JA_pd (i := 7) rfl (by kernel_rfl) rfl rfl (det_assign rfl) ?_
                  refine JA_pd (i := 8) rfl (by kernel_rfl) rfl rfl (det_assign rfl) ?_
                  refine JA_done (by kernel_rfl) ?_
                  refine JE_seq ?_
                  refine JC_seq ?_
                  refine JC_region ?_
                  refine JL_pd rfl (det_move rfl) ?_
                  refine JL_pd rfl (det_eql rfl rfl) ?_
                  refine JL_pd rfl (det_move rfl) ?_
                  -- stop: guard 2
                  refine JL_split (d0 := 154) rfl (fun k9 => ?_) (fun k9 => ?_)
                  · have k9' := hwi (of_decide_eq_true k9)
                    refine JL_guard rfl rfl k9 ?_
                    refine JL_pd rfl (det_move rfl) ?_
                    refine JL_guard rfl rfl k9 ?_
                    refine JL_pd rfl (det_len rfl Try.runUnderlying23) ?_
                    refine JL_guard rfl rfl k9 ?_
                    refine JL_pd rfl (det_move rfl) ?_
                    refine JL_guard rfl rfl k9 ?_
                    refine JL_pd rfl (det_len rfl Try.runUnderlying23) ?_
                    refine JL_guard rfl rfl k9 ?_
                    refine JL_pd rfl (det_lss rfl rfl) ?_
                    refine JL_pd rfl (det_pick_t rfl k9 rfl) ?_
                    refine JL_nil ?_
                    refine JE_seq ?_
                    -- stop: cond
                    refine JC_if rfl (fun h10 => ?_) (fun h10 => ?_)
                    · omega
                    · refine JC_skip ?_
                      refine JE_block ?_
                      refine JE_seq ?_
                      refine JC_region ?_
                      refine JL_pd rfl (det_move rfl) ?_
                      refine JL_pd rfl (det_add rfl rfl ⟨by omega, by omega⟩) ?_
                      refine JL_pd rfl (det_assign rfl) ?_
                      refine JL_nil ?_
                      -- stop: end
                      refine JE_roundF hK5 (i + 1) (by omega) (by omega) (stsub_consI rfl (by omega) (stsub_consB rfl hsn.symm stsub_nil)) ht_nil
                  · refine JL_skip rfl rfl k9 rfl ?_
                    refine JL_skip rfl rfl k9 rfl ?_
                    refine JL_skip rfl rfl k9 rfl ?_
                    refine JL_skip rfl rfl k9 rfl ?_
                    refine JL_skip rfl rfl k9 rfl ?_
                    refine JL_pd rfl (det_pick_f rfl k9 rfl) ?_
                    refine JL_nil ?_
                    refine JE_seq ?_
                    -- stop: cond
                    refine JC_cond rfl (fun h10 => ?_) (fun h10 => ?_)
                    · cases h10
                    · refine JC_skip ?_
                      refine JE_block ?_
                      refine JE_seq ?_
                      refine JC_region ?_
                      refine JL_pd rfl (det_move rfl) ?_
                      refine JL_pd rfl (det_add rfl rfl ⟨by omega, by omega⟩) ?_
                      refine JL_pd rfl (det_assign rfl) ?_
                      refine JL_nil ?_
                      -- stop: end
                      refine JE_roundF hK5 (i + 1) (by omega) (by omega) (stsub_consI rfl (by omega) (stsub_consB rfl hsn.symm stsub_nil)) ht_nil
            · have hB := hfin (by omega)
              subst hB
              refine JC_exit ?_
              refine JE_seq_exit ?_
              refine JE_then_exit ?_
              refine JE_block_here ?_
              refine JE_seq ?_
              refine JC_seq ?_
              refine JC_region ?_
              refine JL_pd rfl (det_move rfl) ?_
              refine JL_pd rfl (det_move rfl) ?_
              -- stop: guard 1
              skip
              refine JL_is (d0 := 162) true rfl (by rfl) (fun g1 => ?_)
              refine JL_guard rfl rfl g1 ?_
              refine JL_step rfl rfl rfl (jo_callv rfl rfl Try.call18 rfl (wakes_j)) fun _ => ?_
              refine JL_pd rfl (det_pick_t rfl g1 rfl) ?_
              refine JL_pd rfl (det_assign rfl) ?_
              refine JL_nil ?_
              refine JE_seq ?_
              refine JC_ret ?_
              -- stop: out
              refine JE_out (.inl rfl) () (results1 Try.results15 (res_tmp rfl)) rfl (List.Perm.refl _) (fun _ _ => trivial)
theorem CycleNever_t (m : Mc) (a : MA) (ws : List Int) (wa : Option Addr) (wc : Nat) (hr : readyB m = false) : Cv Try.prog 15 [.agg #[I m.states, .slice a.sa m.steps.length a.sc, .slice a.ra m.running.length a.rc, .slice a.ka m.locks.length a.kc], .slice wa ws.length wc] (KAnd (KMc m a) (KSl wa ws.length wc encU ws)) (.bool true) := by
  refine Cx_of Try.func15 rfl Try.ntmps15 rfl fun w0 M0 => ?_
  refine JC_seq ?_
  refine JC_region ?_
  refine JL_step rfl rfl rfl (jo_box rfl rfl) fun b2 => ?_
  refine JL_pd rfl (det_assign rfl) ?_
  refine JL_nil ?_
  refine JE_seq ?_
  refine JC_seq ?_
  refine JC_seq ?_
  refine JC_region ?_
  refine JL_dt rfl (det_loadKA rfl Try.isAgg26 Try.sizeOf26 rfl rfl) ?_
  refine JL_step rfl rfl rfl (jo_callv rfl rfl Try.call38 rfl (ready_j m a)) fun _ => ?_
  refine JL_pd rfl (det_not rfl) ?_
  refine JL_nil ?_
  refine JE_seq ?_
  -- stop: cond
  refine JC_cond rfl (fun h1 => ?_) (fun h1 => ?_)
  · refine JC_seq ?_
    refine JC_region ?_
    refine JL_step rfl rfl rfl (jo_callv rfl rfl Try.call18 rfl (wakes_j)) fun _ => ?_
    refine JL_pd rfl (det_assign rfl) ?_
    refine JL_nil ?_
    refine JE_seq ?_
    refine JC_ret ?_
    refine JE_seq_ret ?_
    -- stop: out
    refine JE_out (.inl rfl) () (results1 Try.results15 (res_tmp rfl)) rfl (List.Perm.refl _) (fun _ _ => trivial)
  · rw [hr] at h1; cases h1
theorem CycleNever_j (m : Mc) (a : MA) (ws : List Int) (wa : Option Addr) (wc : Nat) (hw : wordsOk ws) : Cv Try.prog 15 [.agg #[I m.states, .slice a.sa m.steps.length a.sc, .slice a.ra m.running.length a.rc, .slice a.ka m.locks.length a.kc], .slice wa ws.length wc] (KAnd (KMc m a) (KSl wa ws.length wc encU ws)) (.bool true) := by
  cases hr : readyB m with
  | false => exact CycleNever_t m a ws wa wc hr
  | true =>
    have he := ready_v hr
    cases hn : wayO m m.locks (dangerB m) with
    | none => exact CycleNever_n m a ws wa wc he hw hn
    | some l => exact CycleNever_s m a ws wa wc he hw l hn
end Go.Proofs.Ytgbfjcgjcnndpaa

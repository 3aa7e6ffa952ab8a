/- The statements about cycle: CycleLost. -/
import Derived.Test.YtgbfjcgjcnndpaaC38
set_option linter.unusedSimpArgs false
set_option linter.unusedVariables false
namespace Go.Proofs.Ytgbfjcgjcnndpaa
open Go.RowKit Go.Shelf

set_option maxRecDepth 100000 in
set_option maxHeartbeats 2000000 in
theorem CycleLost_r (m : Mc) (a : MA) (ws : List Int) (wa : Option Addr) (wc : Nat) (bits lost : Int) (he : fault m = 0) (hw : wordsOk ws) (hb : 0 ≤ bits ∧ bits ≤ 4294967295) (hlo : 0 ≤ lost ∧ lost ≤ 255) : Cv Try.prog 12 [.agg #[I m.states, .slice a.sa m.steps.length a.sc, .slice a.ra m.running.length a.rc, .slice a.ka m.locks.length a.kc], .slice wa ws.length wc, .int .u32 bits, .int .u8 lost] (KAnd (KMc m a) (KSl wa ws.length wc encU ws)) (.bool true) := by
  have V := valid_of he
  have hl1 := V.ns; have hl2 := V.nl; have hl3 := V.nr
  have hrb := ready_of he
  obtain ⟨hrun, hok, hlen⟩ := randS_spec (m := m) ws
  have hrnd := Random_j m a ws wa wc he hw
  have hrl := reach_len m m.locks
  have hst := Stands_jo m
  have hres := fun s (h : s ∈ reachL m m.locks) => wayRes_of V he h
  have hnear := fun s (h : s ∈ reachL m m.locks) w hw n => near_ends V h (w := w) hw n
  generalize reachL m m.locks = L at hrl hst hres hnear
  generalize randS m ws = Q at hrun hok hlen hrnd
  obtain ⟨sg, at_⟩ := Q
  dsimp only at hrun hok hlen hrnd
  refine Cx_of Try.func12 rfl Try.ntmps12 rfl fun w0 M0 => ?_
  refine JC_seq ?_
  refine JC_region ?_
  refine JL_step rfl rfl rfl (jo_box rfl rfl) fun b4 => ?_
  refine JL_pd rfl (det_assign rfl) ?_
  refine JL_nil ?_
  refine JE_seq ?_
  refine JC_seq ?_
  refine JC_seq ?_
  refine JC_region ?_
  refine JL_dt rfl (det_loadKA rfl Try.isAgg26 Try.sizeOf26 rfl rfl) ?_
  refine JL_step rfl rfl rfl (jo_callv rfl rfl Try.call38 rfl (ready_j m a)) fun _ => ?_
  refine JL_pd rfl (det_not rfl) ?_
  refine JL_nil ?_
  refine JE_seq ?_
  -- stop: cond
  refine JC_cond rfl (fun h1 => ?_) (fun h1 => ?_)
  · rw [hrb] at h1; cases h1
  · refine JC_skip ?_
    refine JE_seq ?_
    refine JC_seq ?_
    refine JC_region ?_
    refine JL_dt rfl (det_loadKA rfl Try.isAgg26 Try.sizeOf26 rfl rfl) ?_
    refine JL_pd rfl (det_move rfl) ?_
    refine JL_step rfl rfl rfl (jo_call rfl rfl Try.call45 rfl (hrnd)) fun x35 => ?_
    refine JL_pd rfl (det_move rfl) ?_
    refine JL_pd rfl (det_extract rfl rfl) ?_
    refine JL_pd rfl (det_extract rfl rfl) ?_
    refine JL_step rfl rfl rfl (jo_alloc0 Try.zeroValue53 rfl) fun b10 => ?_
    refine JL_pd rfl (det_assign rfl) ?_
    refine JL_step0 rfl rfl (jo_store rfl rfl rfl (by first | (simp only [splice_norm]; done) | (simp only [splice_norm]; rfl) | rfl) Try.sizeOf53 rfl rfl) fun _ => ?_
    refine JL_nil ?_
    refine JE_seq ?_
    refine JC_seq ?_
    refine JC_region ?_
    refine JL_pd rfl (det_assign rfl) ?_
    refine JL_nil ?_
    refine JE_seq ?_
    refine JC_seq ?_
    refine JC_region ?_
    refine JL_pd rfl (det_assign rfl) ?_
    refine JL_nil ?_
    refine JE_seq ?_
    refine JC_seq ?_
    refine JC_seq ?_
    refine JC_region ?_
    refine JL_pd rfl (det_assign rfl) ?_
    refine JL_nil ?_
    refine JE_seq ?_
    refine JC_block ?_
    -- stop: loop
    refine JC_keep b4 noFp ?_
    refine JC_keep b10 noFp ?_
    refine JC_nil 3 1 ?_
    refine JC_loopF (γ := Nat × Value × List Int × Nat) (fun q => q.1 ≤ sg.length ∧ LeftI m (sg.take q.1) q.2.2.1 q.2.2.2 ∧ okSg q.2.2.1 ∧ q.2.2.2 ≤ 5 ∧ q.2.2.1.length ≤ q.1) (fun q => [(13, I q.1), (11, q.2.1), (12, I q.2.2.2)]) (fun q => [ow q.2.1 3 1 q.2.2.1.length (q.2.2.1.flatMap encI)]) (fun q => sg.length - q.1) (0, .slice none 0 0, [], 0) ⟨Nat.zero_le _, LeftI.zero m, (fun g hg => by cases hg), Nat.zero_le _, Nat.le_refl _⟩ (stsub_consI rfl rfl (stsub_cons rfl (stsub_consI rfl rfl stsub_nil))) (ht_ow rfl rfl ht_nil) ?_
    rintro ⟨i, v, log, gone⟩ ⟨hi, hleft, hlog, hg5, hll⟩ K hK
    dsimp only [List.cons_append, List.nil_append] at hi hleft hlog hg5 hll ⊢
    refine JC_seq ?_
    refine JC_seq ?_
    refine JC_region ?_
    refine JL_pd rfl (det_move rfl) ?_
    refine JL_pd rfl (det_move rfl) ?_
    refine JL_pd rfl (det_len rfl Try.runUnderlying23) ?_
    refine JL_pd rfl (det_lss rfl rfl) ?_
    refine JL_nil ?_
    refine JE_seq ?_
    -- stop: cond
    refine JC_if rfl (fun h2 => ?_) (fun h2 => ?_)
    · have hi2 : i < sg.length := by omega
      have hgb := hok _ (List.getElem_mem hi2)
      have htk := take_snoc hi2
      have hkept := hleft.kept sg[i]
      have hlost' := hleft.lost hgb
      rw [← htk] at hkept hlost'
      refine JC_skip ?_
      refine JE_seq ?_
      refine JC_seq ?_
      refine JC_block ?_
      refine JC_seq ?_
      refine JC_seq ?_
      refine JC_region ?_
      refine JL_pd rfl (det_move rfl) ?_
      refine JL_pd rfl (det_lss rfl rfl) ?_
      refine JL_pd rfl (det_move rfl) ?_
      -- stop: guard 2
      refine JL_join1 7 53 (.bool (decide ((gone : Int) < 5) && decide ((bits.fdiv (2 ^ min ((i : Int)).toNat IntKind.u32.bits)).tmod 2 = 1))) (fun hj => ?_) ?_
      · refine JL_split (d0 := 46) rfl (fun q1 => ?_) (fun q1 => ?_)
        · refine JL_guard rfl rfl q1 ?_
          refine JL_pd rfl (det_move rfl) ?_
          refine JL_guard rfl rfl q1 ?_
          refine JL_pd rfl (det_move rfl) ?_
          refine JL_guard rfl rfl q1 ?_
          refine JL_pd rfl (det_convI rfl Try.runUnderlying3 Try.runUnderlying87 (u64_wrap ⟨by omega, by omega⟩)) ?_
          refine JL_guard rfl rfl q1 ?_
          refine JL_pd rfl (det_shr rfl rfl (by omega)) ?_
          refine JL_guard rfl rfl q1 ?_
          refine JL_pd rfl (det_rem rfl rfl (by omega)) ?_
          refine JL_guard rfl rfl q1 ?_
          refine JL_pd rfl (det_eql rfl rfl) ?_
          refine JL_pd rfl (det_pick_t rfl q1 rfl) ?_
          exact hj (by kernel_rfl) (stsub_consB rfl (by clear hj; first | rfl | (simp only [q1, Bool.and_true, Bool.true_and, Bool.false_and, Bool.and_false, Bool.or_true, Bool.true_or, Bool.or_false, Bool.false_or, Bool.not_true, Bool.not_false]; done) | (simp [q1]; done) | (simp at q1; done) | (simp [q1] <;> omega) | (exfalso; simp at q1; omega)) stsub_nil)
        · refine JL_skip rfl rfl q1 rfl ?_
          refine JL_skip rfl rfl q1 rfl ?_
          refine JL_skip rfl rfl q1 rfl ?_
          refine JL_skip rfl rfl q1 rfl ?_
          refine JL_skip rfl rfl q1 rfl ?_
          refine JL_skip rfl rfl q1 rfl ?_
          refine JL_pd rfl (det_pick_f rfl q1 rfl) ?_
          exact hj (by kernel_rfl) (stsub_consB rfl (by clear hj; first | rfl | (simp only [q1, Bool.and_true, Bool.true_and, Bool.false_and, Bool.and_false, Bool.or_true, Bool.true_or, Bool.or_false, Bool.false_or, Bool.not_true, Bool.not_false]; done) | (simp [q1]; done) | (simp at q1; done) | (simp [q1] <;> omega) | (exfalso; simp at q1; omega)) stsub_nil)
      refine JL_nil ?_
      refine JE_seq ?_
      -- stop: cond
      refine JC_cond rfl (fun h3 => ?_) (fun h3 => ?_)
      · have h3' : gone < 5 := by rw [Bool.and_eq_true] at h3; have := of_decide_eq_true h3.1; omega
        refine JC_seq ?_
        refine JC_region ?_
        refine JL_pd rfl (det_move rfl) ?_
        refine JL_pd rfl (det_add rfl rfl ⟨by omega, by omega⟩) ?_
        refine JL_pd rfl (det_assign rfl) ?_
        refine JL_nil ?_
        refine JE_seq ?_
        refine JC_exit ?_
        refine JE_seq_exit ?_
        refine JE_block_here ?_
        refine JE_seq ?_
        refine JC_region ?_
        refine JL_pd rfl (det_move rfl) ?_
        refine JL_pd rfl (det_add rfl rfl ⟨by omega, by omega⟩) ?_
        refine JL_pd rfl (det_assign rfl) ?_
        refine JL_nil ?_
        -- stop: end
        refine JE_roundF hK (i + 1, v, log, gone + 1) ⟨by simp only; omega, hlost', hlog, by simp only; omega, by simp only; omega⟩ (by simp only; omega) (stsub_consI rfl (by simp only; omega) (stsub_cons rfl (stsub_consI rfl (by simp only; omega) stsub_nil))) (ht_ow rfl rfl ht_nil)
      · refine JC_skip ?_
        refine JE_seq ?_
        refine JC_region ?_
        refine JL_pd rfl (det_move rfl) ?_
        refine JL_pd rfl (det_move rfl) ?_
        refine JL_pd rfl (det_move rfl) ?_
        refine JL_dt rfl (det_indexAddr rfl rfl (by first | rfl | omega) (by first | assumption | omega | decide) Try.runUnderlying23 Try.sizeOf3) ?_
        refine JL_dt rfl (det_loadE rfl (by first | assumption | omega | decide) Try.isAgg3 rfl rfl) ?_
        refine JL_step rfl rfl rfl (jo_buildSlice rfl (bsl_23_1_0 _)) fun b61 => ?_
        refine JL_step rfl rfl rfl (jo_append el_23 rfl rfl rfl rfl (by omega)) fun b62 => ?_
        refine JL_pd rfl (det_assign rfl) ?_
        refine JL_nil ?_
        refine JE_block ?_
        refine JE_seq ?_
        refine JC_region ?_
        refine JL_pd rfl (det_move rfl) ?_
        refine JL_pd rfl (det_add rfl rfl ⟨by omega, by omega⟩) ?_
        refine JL_pd rfl (det_assign rfl) ?_
        refine JL_nil ?_
        -- stop: end
        refine JE_roundF hK (i + 1, .slice (some ⟨b62.1, 0, none⟩) (log.length + 1) b62.2, log ++ [sg[i]], gone) ⟨by simp only; omega, hkept, ?_, hg5, by simp only [List.length_append, List.length_singleton]; omega⟩ (by simp only; omega) (stsub_consI rfl (by simp only; omega) (stsub_cons rfl (stsub_consI rfl rfl stsub_nil))) (ht_ow (by simp) (by simp [encI]) ht_nil)
        intro g hg
        rcases List.mem_append.1 hg with hg | hg
        · exact hlog g hg
        · rw [List.mem_singleton.1 hg]; exact hgb
    · obtain rfl : i = sg.length := by omega
      rw [List.take_length] at hleft
      have hE := hleft _ hrun
      have h20 : log.length ≤ 20 := by omega
      have hat : at_ ∈ standsW (endsW m log gone) := (mem_ends V).2 ⟨gone, Nat.le_refl _, hE⟩
      have hsub : subB (standsW (endsW m log gone)) (standsW (endsW m log (min 5 (gone + 1)))) = true := by
        unfold subB
        rw [List.all_eq_true]
        intro s hs
        obtain ⟨k, hk, h⟩ := (mem_ends V).1 hs
        exact decide_eq_true ((mem_ends V).2 ⟨k, by omega, h⟩)
      have hne2 : standsW (endsW m log (min 5 (gone + 1))) ≠ [] := fun e => by
        have := List.all_eq_true.1 hsub _ hat
        rw [e] at this; simp at this
      have hl24 : ∀ k, (standsW (endsW m log k)).length ≤ 24 := fun k => standsN_len _ _
      have e1 := fun b : MA => fun pa pc => Ends_js m b gone pa pc log he h20 hg5 hlog _ rfl (List.ne_nil_of_mem hat)
      have e2 := fun b : MA => fun pa pc => Ends_js m b (min 5 (gone + 1)) pa pc log he h20 (by omega) hlog _ rfl hne2
      rw [show ((min 5 (gone + 1) : Nat) : Int) = min 5 ((gone : Int) + 1) by omega] at e2
      have hl24b := hl24 (min 5 (gone + 1))
      have hl24a := hl24 gone
      generalize standsW (endsW m log (min 5 (gone + 1))) = L2 at hsub e2 hl24b
      generalize standsW (endsW m log gone) = L1 at hat hsub e1 hl24a
      have hn6 : 0 ≤ lost.tmod 6 ∧ lost.tmod 6 ≤ 5 := by rw [Int.tmod_eq_emod_of_nonneg hlo.1]; omega
      obtain ⟨n, hn⟩ : ∃ n : Nat, lost.tmod 6 = (n : Int) := ⟨(lost.tmod 6).toNat, by omega⟩
      have hz : (⟨0, 0⟩ : Sd) ∈ standsW (endsW m [] n) := (mem_ends V).2 ⟨0, Nat.zero_le _, .zero⟩
      have e3 := fun b : MA => Ends_js m b n none 0 [] he (by simp) (by omega) (by simp) _ rfl (List.ne_nil_of_mem hz)
      have e4 := fun b : MA => Ends_js m b 0 none 0 [] he (by simp) (by omega) (by simp) _ (ends_zero V) (by simp)
      rw [← hn] at e3
      have hl24c : (standsW (endsW m [] n)).length ≤ 24 := standsN_len _ _
      have hnear := fun s h w hw => hnear s h w hw n
      generalize standsW (endsW m [] n) = L3 at hz e3 hl24c hnear
      refine JC_slice (enc := encI) (v := v) log noFp rfl rfl ?_
      rintro av cv rfl
      refine JC_exit ?_
      refine JE_seq_exit ?_
      refine JE_then_exit ?_
      refine JE_block_here ?_
      refine JE_seq ?_
      refine JC_seq ?_
      refine JC_region ?_
      refine JL_dt rfl (det_loadKA rfl Try.isAgg26 Try.sizeOf26 rfl rfl) ?_
      refine JL_step rfl rfl rfl (jo_call rfl rfl Try.call20 rfl (Machine_j m a (by omega) (by omega) (by omega))) fun x65 => ?_
      refine JL_pd rfl (det_move rfl) ?_
      refine JL_step rfl rfl rfl (jo_call rfl rfl Try.call35 rfl (lList_j log av cv (by omega))) fun x67 => ?_
      refine JL_pd rfl (det_move rfl) ?_
      -- stop: op  5 t69 := (call (Call (value f34) (t65 t67 t68) (34 23 3)))   <1 3 4 3>   288
      refine JL_step rfl rfl rfl (jo_call rfl rfl Try.call34 rfl (e1 x65 x67.1 x67.2)) fun ⟨pa1, pc1⟩ => ?_
      refine JL_pd rfl (det_move rfl) ?_
      refine JL_pd rfl (det_extract rfl rfl) ?_
      refine JL_pd rfl (det_extract rfl rfl) ?_
      refine JL_pd rfl (det_assign rfl) ?_
      refine JL_pd rfl (det_assign rfl) ?_
      refine JL_nil ?_
      refine JE_seq ?_
      refine JC_seq ?_
      refine JC_region ?_
      refine JL_dt rfl (det_loadKA rfl Try.isAgg26 Try.sizeOf26 rfl rfl) ?_
      refine JL_step rfl rfl rfl (jo_call rfl rfl Try.call20 rfl (Machine_j m a (by omega) (by omega) (by omega))) fun x74 => ?_
      refine JL_pd rfl (det_move rfl) ?_
      refine JL_step rfl rfl rfl (jo_call rfl rfl Try.call35 rfl (lList_j log av cv (by omega))) fun x76 => ?_
      refine JL_pd rfl (det_move rfl) ?_
      refine JL_pd rfl (det_add rfl rfl ⟨by omega, by omega⟩) ?_
      refine JL_pd rfl (det_min rfl rfl) ?_
      -- stop: op  7 t80 := (call (Call (value f34) (t74 t76 t79) (34 23 3)))   <1 3 6 3>   289
      refine JL_step rfl rfl rfl (jo_call rfl rfl Try.call34 rfl (e2 x74 x76.1 x76.2)) fun ⟨pa2, pc2⟩ => ?_
      refine JL_pd rfl (det_move rfl) ?_
      refine JL_pd rfl (det_extract rfl rfl) ?_
      refine JL_pd rfl (det_extract rfl rfl) ?_
      refine JL_pd rfl (det_assign rfl) ?_
      refine JL_pd rfl (det_assign rfl) ?_
      refine JL_nil ?_
      refine JE_seq ?_
      refine JC_seq ?_
      refine JC_seq ?_
      refine JC_region ?_
      refine JL_pd rfl (det_move rfl) ?_
      refine JL_pd rfl (det_neq rfl rfl) ?_
      refine JL_pd rfl (det_move rfl) ?_
      -- stop: guard 2
      skip
      refine JL_is (d0 := 85) false rfl (by (first | rfl | simp [hat])) (fun g1 => ?_)
      refine JL_guard rfl rfl g1 ?_
      refine JL_pd rfl (det_move rfl) ?_
      refine JL_guard rfl rfl g1 ?_
      refine JL_pd rfl (det_neq rfl rfl) ?_
      refine JL_pd rfl (det_pick_f rfl g1 rfl) ?_
      refine JL_pd rfl (det_move rfl) ?_
      refine JL_is (d0 := 89) false rfl (by (first | rfl | simp [hat])) (fun g2 => ?_)
      refine JL_guard rfl rfl g2 ?_
      refine JL_pd rfl (det_move rfl) ?_
      refine JL_guard rfl rfl g2 ?_
      refine JL_pd rfl (det_fieldAddr rfl fo_53_0) ?_
      refine JL_guard rfl rfl g2 ?_
      refine JL_dt rfl (det_loadK rfl Try.isAgg3 rfl) ?_
      refine JL_guard rfl rfl g2 ?_
      refine JL_pd rfl (det_fieldAddr rfl fo_53_1) ?_
      refine JL_guard rfl rfl g2 ?_
      refine JL_dt rfl (det_loadK rfl Try.isAgg3 rfl) ?_
      refine JL_guard rfl rfl g2 ?_
      refine JL_pd rfl (det_build rfl (bld_77_0_1 _ _)) ?_
      refine JL_guard rfl rfl g2 ?_
      refine JL_step rfl rfl rfl (jo_callv rfl rfl Try.call43 rfl (has_j at_ _ _ L1 (by omega))) fun _ => ?_
      refine JL_guard rfl rfl g2 ?_
      refine JL_pd rfl (det_not rfl) ?_
      refine JL_pd rfl (det_pick_f rfl g2 rfl) ?_
      refine JL_pd rfl (det_move rfl) ?_
      refine JL_is (d0 := 99) false rfl (by (first | rfl | simp [hat])) (fun g3 => ?_)
      refine JL_guard rfl rfl g3 ?_
      refine JL_pd rfl (det_move rfl) ?_
      refine JL_guard rfl rfl g3 ?_
      refine JL_pd rfl (det_move rfl) ?_
      refine JL_guard rfl rfl g3 ?_
      refine JL_step rfl rfl rfl (jo_callv rfl rfl Try.call41 rfl (subset_j _ _ _ _ L1 L2 (by omega) (by omega))) fun _ => ?_
      refine JL_guard rfl rfl g3 ?_
      refine JL_pd rfl (det_not rfl) ?_
      refine JL_pd rfl (det_pick_f rfl g3 rfl) ?_
      refine JL_nil ?_
      refine JE_seq ?_
      -- stop: cond
      refine JC_cond rfl (fun h5 => ?_) (fun h5 => ?_)
      · rw [hsub] at h5; cases h5
      · refine JC_skip ?_
        refine JE_seq ?_
        refine JC_seq ?_
        refine JC_region ?_
        refine JL_pd rfl (det_move rfl) ?_
        refine JL_pd rfl (det_convI rfl Try.runUnderlying5 Try.runUnderlying3 (i64_wrap ⟨by omega, by omega⟩)) ?_
        refine JL_pd rfl (det_rem rfl rfl (by omega)) ?_
        refine JL_pd rfl (det_assign rfl) ?_
        refine JL_nil ?_
        refine JE_seq ?_
        refine JC_seq ?_
        refine JC_region ?_
        refine JL_dt rfl (det_loadKA rfl Try.isAgg26 Try.sizeOf26 rfl rfl) ?_
        refine JL_step rfl rfl rfl (jo_call rfl rfl Try.call20 rfl (Machine_j m a (by omega) (by omega) (by omega))) fun x110 => ?_
        refine JL_pd rfl (det_move rfl) ?_
        -- stop: op  3 t112 := (call (Call (value f34) (t110 (slice none 0 0) t111) (34 23 3)))   <1 2 1>   294
        refine JL_step rfl rfl rfl (jo_call rfl rfl Try.call34 rfl (e3 x110)) fun ⟨pa3, pc3⟩ => ?_
        refine JL_pd rfl (det_move rfl) ?_
        refine JL_pd rfl (det_extract rfl rfl) ?_
        refine JL_pd rfl (det_extract rfl rfl) ?_
        refine JL_pd rfl (det_assign rfl) ?_
        refine JL_pd rfl (det_assign rfl) ?_
        refine JL_nil ?_
        refine JE_seq ?_
        refine JC_seq ?_
        refine JC_region ?_
        refine JL_dt rfl (det_loadKA rfl Try.isAgg26 Try.sizeOf26 rfl rfl) ?_
        refine JL_step rfl rfl rfl (jo_call rfl rfl Try.call20 rfl (Machine_j m a (by omega) (by omega) (by omega))) fun x117 => ?_
        -- stop: op  2 t118 := (call (Call (value f34) (t117 (slice none 0 0) 0) (34 23 3)))   <1 1>   295
        refine JL_step rfl rfl rfl (jo_call rfl rfl Try.call34 rfl (e4 x117)) fun ⟨pa4, pc4⟩ => ?_
        refine JL_pd rfl (det_move rfl) ?_
        refine JL_pd rfl (det_extract rfl rfl) ?_
        refine JL_pd rfl (det_extract rfl rfl) ?_
        refine JL_pd rfl (det_assign rfl) ?_
        refine JL_pd rfl (det_assign rfl) ?_
        refine JL_nil ?_
        refine JE_seq ?_
        refine JC_seq ?_
        refine JC_region ?_
        refine JL_dt rfl (det_loadKA rfl Try.isAgg26 Try.sizeOf26 rfl rfl) ?_
        refine JL_step rfl rfl rfl (jo_call rfl rfl Try.call20 rfl (Machine_j m a (by omega) (by omega) (by omega))) fun x123 => ?_
        refine JL_step rfl rfl rfl (jo_call rfl rfl Try.call21 rfl (hst x123 he)) fun x124 => ?_
        refine JL_pd rfl (det_move rfl) ?_
        refine JL_pd rfl (det_extract rfl rfl) ?_
        refine JL_pd rfl (det_extract rfl rfl) ?_
        refine JL_pd rfl (det_assign rfl) ?_
        refine JL_pd rfl (det_assign rfl) ?_
        refine JL_nil ?_
        refine JE_seq ?_
        refine JC_seq ?_
        refine JC_seq ?_
        refine JC_region ?_
        refine JL_pd rfl (det_move rfl) ?_
        refine JL_pd rfl (det_neq rfl rfl) ?_
        refine JL_pd rfl (det_move rfl) ?_
        -- stop: guard 2
        skip
        refine JL_is (d0 := 129) false rfl (by (first | rfl | decide)) (fun g1 => ?_)
        refine JL_guard rfl rfl g1 ?_
        refine JL_pd rfl (det_move rfl) ?_
        refine JL_guard rfl rfl g1 ?_
        refine JL_pd rfl (det_neq rfl rfl) ?_
        refine JL_pd rfl (det_pick_f rfl g1 rfl) ?_
        refine JL_pd rfl (det_move rfl) ?_
        refine JL_is (d0 := 133) false rfl (by (first | rfl | decide)) (fun g2 => ?_)
        refine JL_guard rfl rfl g2 ?_
        refine JL_pd rfl (det_move rfl) ?_
        refine JL_guard rfl rfl g2 ?_
        refine JL_pd rfl (det_len rfl Try.runUnderlying36) ?_
        refine JL_guard rfl rfl g2 ?_
        refine JL_pd rfl (det_neq rfl rfl) ?_
        refine JL_pd rfl (det_pick_f rfl g2 rfl) ?_
        refine JL_pd rfl (det_move rfl) ?_
        refine JL_is (d0 := 138) false rfl (by (first | rfl | decide)) (fun g3 => ?_)
        refine JL_guard rfl rfl g3 ?_
        refine JL_pd rfl (det_move rfl) ?_
        refine JL_guard rfl rfl g3 ?_
        refine JL_dt rfl (det_indexAddr (i := 0) rfl rfl (by first | rfl | omega) (by first | assumption | omega | decide) Try.runUnderlying36 Try.sizeOf77) ?_
        refine JL_guard rfl rfl g3 ?_
        refine JL_dt rfl (det_loadEA rfl (by first | assumption | omega | decide) Try.isAgg77 Try.sizeOf77 rfl rfl rfl) ?_
        refine JL_guard rfl rfl g3 ?_
        refine JL_pd rfl (det_build rfl (bld_77)) ?_
        refine JL_guard rfl rfl g3 ?_
        refine JL_pd rfl (det_neqA rfl rfl egt_77 (eqa_77 _ _ _ _)) ?_
        refine JL_pd rfl (det_pick_f rfl g3 rfl) ?_
        refine JL_pd rfl (det_move rfl) ?_
        refine JL_is (d0 := 145) false rfl (by (first | rfl | decide)) (fun g4 => ?_)
        refine JL_guard rfl rfl g4 ?_
        refine JL_pd rfl (det_move rfl) ?_
        refine JL_guard rfl rfl g4 ?_
        refine JL_pd rfl (det_neq rfl rfl) ?_
        refine JL_pd rfl (det_pick_f rfl g4 rfl) ?_
        refine JL_nil ?_
        refine JE_seq ?_
        -- stop: cond
        refine JC_cond rfl (fun h6 => ?_) (fun h6 => ?_)
        · cases h6
        · refine JC_skip ?_
          refine JE_seq ?_
          refine JC_seq ?_
          refine JC_seq ?_
          refine JC_region ?_
          refine JL_pd rfl (det_assign rfl) ?_
          refine JL_nil ?_
          refine JE_seq ?_
          refine JC_block ?_
          -- stop: loop
          refine JC_loopF (γ := Nat) (fun i => i ≤ L.length) (fun i => [(25, I i)]) (fun _ => []) (fun i => L.length - i) 0 (Nat.zero_le _) (stsub_consI rfl rfl stsub_nil) ht_nil ?_
          rintro i hi K2 hK2
          dsimp only [List.cons_append, List.nil_append]
          refine JC_seq ?_
          refine JC_seq ?_
          refine JC_region ?_
          refine JL_pd rfl (det_move rfl) ?_
          refine JL_pd rfl (det_move rfl) ?_
          refine JL_pd rfl (det_len rfl Try.runUnderlying36) ?_
          refine JL_pd rfl (det_lss rfl rfl) ?_
          refine JL_nil ?_
          refine JE_seq ?_
          -- stop: cond
          refine JC_if rfl (fun h7 => ?_) (fun h7 => ?_)
          · have hi2 : i < L.length := by omega
            have hLi := List.getElem_mem hi2
            obtain ⟨w, hw2, hwr⟩ := hres _ hLi
            have hnr := hnear _ hLi w hw2
            have hwy := fun b : MA => Way_j m b L[i]
            rw [hwr] at hwy
            refine JC_skip ?_
            refine JE_seq ?_
            refine JC_seq ?_
            refine JC_block ?_
            refine JC_seq ?_
            refine JC_draw [] (by kernel_rfl) ?_
            refine JA_dt (i := 0) rfl (by kernel_rfl) (by kernel_rfl) rfl rfl (det_loadKA rfl Try.isAgg26 Try.sizeOf26 rfl rfl) ?_
            refine JA_pd (i := 2) rfl (by kernel_rfl) rfl rfl (det_move rfl) ?_
            refine JA_pd (i := 3) rfl (by kernel_rfl) rfl rfl (det_move rfl) ?_
            refine JA_dt (i := 4) rfl (by kernel_rfl) (by kernel_rfl) rfl rfl (det_indexAddr rfl rfl (by first | rfl | omega) (by first | assumption | omega | decide) Try.runUnderlying36 Try.sizeOf77) ?_
            refine JA_dt (i := 5) rfl (by kernel_rfl) (by kernel_rfl) rfl rfl (det_loadEA rfl (by first | assumption | omega | decide) Try.isAgg77 Try.sizeOf77 rfl rfl rfl) ?_
            refine JA_one (i := 1) (by kernel_rfl) rfl rfl (jo_call rfl rfl Try.call20 rfl (Machine_j m a (by omega) (by omega) (by omega))) (fun _ => ⟨hsub_drop 0 rfl, fun _ h => h.2⟩) fun x157 => ?_
            refine JA_one (i := 6) (by kernel_rfl) rfl rfl (jo_call rfl rfl Try.call44 rfl (hwy x157)) (fun _ => ⟨hsub_drop 0 rfl, fun _ h => h.2⟩) fun x162 => ?_
            refine JA_pd (i := 7) rfl (by kernel_rfl) rfl rfl (det_move rfl) ?_
            refine JA_pd (i := 8) rfl (by kernel_rfl) rfl rfl (det_extract rfl rfl) ?_
            refine JA_pd (i := 9) rfl (by kernel_rfl) rfl rfl (det_extract rfl rfl) ?_
            refine JA_pd (i := 10) rfl (by kernel_rfl) rfl rfl (det_assign rfl) ?_
            refine JA_pd (i := 11) rfl (by kernel_rfl) rfl rfl (det_assign rfl) ?_
            refine JA_done (by kernel_rfl) ?_
            refine JE_seq ?_
            refine JC_seq ?_
            refine JC_region ?_
            refine JL_pd rfl (det_move rfl) ?_
            refine JL_pd rfl (det_neq rfl rfl) ?_
            refine JL_pd rfl (det_move rfl) ?_
            -- stop: guard 2
            skip
            refine JL_is (d0 := 167) false rfl (by (first | rfl | decide)) (fun g1 => ?_)
            refine JL_guard rfl rfl g1 ?_
            refine JL_pd rfl (det_move rfl) ?_
            refine JL_guard rfl rfl g1 ?_
            refine JL_pd rfl (det_len rfl Try.runUnderlying23) ?_
            refine JL_guard rfl rfl g1 ?_
            refine JL_pd rfl (det_move rfl) ?_
            refine JL_guard rfl rfl g1 ?_
            refine JL_pd rfl (det_leq rfl rfl) ?_
            refine JL_guard rfl rfl g1 ?_
            refine JL_pd rfl (det_move rfl) ?_
            refine JL_guard rfl rfl g1 ?_
            refine JL_pd rfl (det_move rfl) ?_
            refine JL_guard rfl rfl g1 ?_
            refine JL_pd rfl (det_move rfl) ?_
            refine JL_guard rfl rfl g1 ?_
            refine JL_dt rfl (det_indexAddr rfl rfl (by first | rfl | omega) (by first | assumption | omega | decide) Try.runUnderlying36 Try.sizeOf77) ?_
            refine JL_guard rfl rfl g1 ?_
            refine JL_dt rfl (det_loadEA rfl (by first | assumption | omega | decide) Try.isAgg77 Try.sizeOf77 rfl rfl rfl) ?_
            refine JL_guard rfl rfl g1 ?_
            refine JL_step rfl rfl rfl (jo_callv rfl rfl Try.call43 rfl (has_j L[i] _ _ L3 (by omega))) fun _ => ?_
            refine JL_guard rfl rfl g1 ?_
            refine JL_pd rfl (det_neqB rfl rfl Try.underlying4) ?_
            refine JL_pd rfl (det_pick_f rfl g1 rfl) ?_
            refine JL_nil ?_
            refine JE_seq ?_
            -- stop: cond
            refine JC_cond rfl (fun h8 => ?_) (fun h8 => ?_)
            · exfalso
              rw [hn, show decide ((w.length : Int) ≤ (n : Int)) = decide (w.length ≤ n) by rw [decide_eq_decide]; omega, hnr] at h8
              simp at h8
            · refine JC_skip ?_
              refine JE_block ?_
              refine JE_seq ?_
              refine JC_region ?_
              refine JL_pd rfl (det_move rfl) ?_
              refine JL_pd rfl (det_add rfl rfl ⟨by omega, by omega⟩) ?_
              refine JL_pd rfl (det_assign rfl) ?_
              refine JL_nil ?_
              -- stop: end
              refine JE_roundF hK2 (i + 1) (by omega) (by omega) (stsub_consI rfl (by omega) stsub_nil) ht_nil
          · refine JC_exit ?_
            refine JE_seq_exit ?_
            refine JE_then_exit ?_
            refine JE_block_here ?_
            refine JE_seq ?_
            refine JC_seq ?_
            refine JC_region ?_
            refine JL_step rfl rfl rfl (jo_callv rfl rfl Try.call18 rfl (wakes_j)) fun _ => ?_
            refine JL_pd rfl (det_assign rfl) ?_
            refine JL_nil ?_
            refine JE_seq ?_
            refine JC_ret ?_
            -- stop: out
            refine JE_out (.inl rfl) () (results1 Try.results12 (res_tmp rfl)) rfl (List.Perm.refl _) (fun _ _ => trivial)
theorem CycleLost_j (m : Mc) (a : MA) (ws : List Int) (wa : Option Addr) (wc : Nat) (bits lost : Int) (hw : wordsOk ws) (hb : 0 ≤ bits ∧ bits ≤ 4294967295) (hlo : 0 ≤ lost ∧ lost ≤ 255) : Cv Try.prog 12 [.agg #[I m.states, .slice a.sa m.steps.length a.sc, .slice a.ra m.running.length a.rc, .slice a.ka m.locks.length a.kc], .slice wa ws.length wc, .int .u32 bits, .int .u8 lost] (KAnd (KMc m a) (KSl wa ws.length wc encU ws)) (.bool true) := by
  cases hr : readyB m with
  | true => exact CycleLost_r m a ws wa wc bits lost (ready_v hr) hw hb hlo
  | false =>
    refine Cx_of Try.func12 rfl Try.ntmps12 rfl fun w0 M0 => ?_
    refine JC_seq ?_
    refine JC_region ?_
    refine JL_step rfl rfl rfl (jo_box rfl rfl) fun b4 => ?_
    refine JL_pd rfl (det_assign rfl) ?_
    refine JL_nil ?_
    refine JE_seq ?_
    refine JC_seq ?_
    refine JC_seq ?_
    refine JC_region ?_
    refine JL_dt rfl (det_loadKA rfl Try.isAgg26 Try.sizeOf26 rfl rfl) ?_
    refine JL_step rfl rfl rfl (jo_callv rfl rfl Try.call38 rfl (ready_j m a)) fun _ => ?_
    refine JL_pd rfl (det_not rfl) ?_
    refine JL_nil ?_
    refine JE_seq ?_
    -- stop: cond
    refine JC_cond rfl (fun h1 => ?_) (fun h1 => ?_)
    · refine JC_seq ?_
      refine JC_region ?_
      refine JL_step rfl rfl rfl (jo_callv rfl rfl Try.call18 rfl (wakes_j)) fun _ => ?_
      refine JL_pd rfl (det_assign rfl) ?_
      refine JL_nil ?_
      refine JE_seq ?_
      refine JC_ret ?_
      refine JE_seq_ret ?_
      -- stop: out
      refine JE_out (.inl rfl) () (results1 Try.results12 (res_tmp rfl)) rfl (List.Perm.refl _) (fun _ _ => trivial)
    · rw [hr] at h1; cases h1
end Go.Proofs.Ytgbfjcgjcnndpaa

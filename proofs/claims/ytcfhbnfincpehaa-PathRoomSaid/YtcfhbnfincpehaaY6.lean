/- The walk of PathRoom. -/
import Derived.Test.YtcfhbnfincpehaaX9
namespace Go.Proofs.Ytcfhbnfincpehaa
open Go.RowKit Go.Shelf

/-- What Best answers. -/
def bstV (A : List St) : St × Int × Int := if (bestF A).2 < 0 then (⟨0, 0⟩, 0, 9) else ((bestF A).1, (bestF A).2, 0)
theorem Best_j2 (l : La) (p : Pk) (ha pa : Option Addr) (hc pc : Nat) (he : aimsErr l p = 0) (bs : St) (bn be : Int) (hq : bstV (aimsL l p) = (bs, bn, be)) : Cv Try.prog 31 [.agg #[I l.boards, I l.rows, .slice ha l.hooks.length hc, .slice pa l.patches.length pc], .agg #[I p.boards.lo, I p.boards.hi, I p.dirs.lo, I p.dirs.hi]] (KLane l ha hc pa pc) (.tuple #[.agg #[I bs.b, I bs.d], I bn, I be]) := by
  have h := Best_jo l p ha pa hc pc he
  unfold bstV at hq
  split at hq
  · rename_i hc'
    rw [if_pos hc'] at h
    cases hq; exact h
  · rename_i hc'
    rw [if_neg hc'] at h
    cases hq; exact h
set_option maxRecDepth 100000 in
theorem PathRoom_j (l : La) (s : St) (p : Pk) (ha pa : Option Addr) (hc pc : Nat) : Cv Try.prog 11 [.agg #[I l.boards, I l.rows, .slice ha l.hooks.length hc, .slice pa l.patches.length pc], .agg #[I s.b, I s.d], .agg #[I p.boards.lo, I p.boards.hi, I p.dirs.lo, I p.dirs.hi]] (KLane l ha hc pa pc) (.bool true) := by
  refine Cx_of Try.func11 rfl Try.ntmps11 rfl fun w0 M0 => ?_
  refine JC_seq ?_
  refine JC_region ?_
  refine JL_step rfl rfl rfl (jo_box rfl rfl) fun b3 => ?_
  refine JL_step rfl rfl rfl (jo_box rfl rfl) fun b4 => ?_
  refine JL_step rfl rfl rfl (jo_box rfl rfl) fun b5 => ?_
  refine JL_pd rfl (det_assign rfl) ?_
  refine JL_nil ?_
  refine JE_seq ?_
  refine JC_seq ?_
  refine JC_seq ?_
  refine JC_region ?_
  refine JL_dt rfl (det_loadKA rfl Try.isAgg25 Try.sizeOf25 rfl rfl) ?_
  refine JL_dt rfl (det_loadKA rfl Try.isAgg27 Try.sizeOf27 rfl rfl) ?_
  -- stop: op  2 t19 := (call (Call (value f36) (t17 t18) (25 27)))   <0 1>   249
  refine JL_step rfl rfl rfl (jo_callv rfl rfl Try.call36 rfl (lready_j l s ha pa hc pc)) fun _ => ?_
  refine JL_pd rfl (det_not rfl) ?_
  refine JL_pd rfl (det_move rfl) ?_
  -- stop: guard 4
  refine JL_split (d0 := 21) rfl (fun h1 => ?_) (fun h1 => ?_)
  · refine JL_skip rfl rfl h1 rfl ?_
    refine JL_skip rfl rfl h1 rfl ?_
    refine JL_skip rfl rfl h1 rfl ?_
    refine JL_pd rfl (det_pick_t rfl h1 rfl) ?_
    refine JL_nil ?_
    refine JE_seq ?_
    -- stop: cond
    refine JC_cond rfl (fun h2 => ?_) (fun h2 => ?_)
    · refine JC_seq ?_
      refine JC_region ?_
      -- stop: op  0 t26 := (call (Call (value f17) () ()))   250
      refine JL_step rfl rfl rfl (jo_callv rfl rfl Try.call17 rfl (lawake_j)) fun _ => ?_
      refine JL_pd rfl (det_assign rfl) ?_
      refine JL_nil ?_
      refine JE_seq ?_
      refine JC_ret ?_
      refine JE_seq_ret ?_
      -- stop: out
      refine JE_out (.inl rfl) () (results1 Try.results11 (res_tmp rfl)) rfl (List.Perm.refl _) (fun _ _ => trivial)
    · cases h2
  · obtain ⟨hthin, he⟩ := ready2 h1
    obtain ⟨V, h0⟩ := valid_start he
    have hth : l.patches.length ≤ 12 ∧ l.hooks.length ≤ 6 := by simpa [thin] using hthin
    have b2 := V.b2
    refine JL_guard rfl rfl h1 ?_
    refine JL_dt rfl (det_loadKA rfl Try.isAgg57 Try.sizeOf57 rfl rfl) ?_
    refine JL_guard rfl rfl h1 ?_
    -- stop: op  6 t23 := (call (Call (value f33) (t22) (57)))   <5 4 4>   249
    refine JL_step rfl rfl rfl (jo_callv rfl rfl Try.call33 rfl (rIsPocket_j p)) fun _ => ?_
    refine JL_guard rfl rfl h1 ?_
    refine JL_pd rfl (det_not rfl) ?_
    refine JL_pd rfl (det_pick_f rfl h1 rfl) ?_
    refine JL_nil ?_
    refine JE_seq ?_
    -- stop: cond
    refine JC_cond rfl (fun h2 => ?_) (fun h2 => ?_)
    · refine JC_seq ?_
      refine JC_region ?_
      -- stop: op  0 t26 := (call (Call (value f17) () ()))   250
      refine JL_step rfl rfl rfl (jo_callv rfl rfl Try.call17 rfl (lawake_j)) fun _ => ?_
      refine JL_pd rfl (det_assign rfl) ?_
      refine JL_nil ?_
      refine JE_seq ?_
      refine JC_ret ?_
      refine JE_seq_ret ?_
      -- stop: out
      refine JE_out (.inl rfl) () (results1 Try.results11 (res_tmp rfl)) rfl (List.Perm.refl _) (fun _ _ => trivial)
    · have hp : isPocket p = true := by simpa using h2
      have hf := valid_fault V
      have hea : aimsErr l p = 0 := by simp [aimsErr, hf, hp]
      have heh : aimErr l s p = 0 := by simp [aimErr, he, hp]
      have hlen := aims_len l p b2
      have hbo := best_of l p
      have hsu := sure_iff (s := s) (p := p) h0 V
      obtain ⟨bs, bn, be, hq⟩ : ∃ bs bn be, bstV (aimsL l p) = (bs, bn, be) := ⟨_, _, _, rfl⟩
      have hnil : aimsL l p = [] → be = 9 := fun e => by
        have := hbo.none e
        unfold bstV at hq
        rw [if_pos (by omega)] at hq
        cases hq; rfl
      have hcons : aimsL l p ≠ [] → be = 0 ∧ bn = (roomN (aimsL l p) bs : Int) - 1 ∧ bs ∈ aimsL l p ∧ (∀ t ∈ aimsL l p, (roomN (aimsL l p) t : Int) - 1 ≤ bn) ∧ (∀ t ∈ aimsL l p, lessS t bs = true → (roomN (aimsL l p) t : Int) - 1 < bn) := fun e => by
        obtain ⟨m1, m2⟩ := hbo.mem e
        have := room_pos m1
        unfold bstV at hq
        rw [if_neg (by omega)] at hq
        cases hq
        exact ⟨rfl, m2, m1, hbo.le, hbo.lt⟩
      refine JC_skip ?_
      refine JE_seq ?_
      refine JC_seq ?_
      refine JC_draw [] (by kernel_rfl) ?_
      refine JA_dt (i := 0) rfl (by kernel_rfl) (by kernel_rfl) rfl rfl (det_loadKA rfl Try.isAgg25 Try.sizeOf25 rfl rfl) ?_
      refine JA_dt (i := 2) rfl (by kernel_rfl) (by kernel_rfl) rfl rfl (det_loadKA rfl Try.isAgg57 Try.sizeOf57 rfl rfl) ?_
      -- stop: op  1 t29 := (call (Call (value f19) (t28) (25)))   <0>   252
      refine JA_one (i := 1) (by kernel_rfl) rfl rfl rfl (jo_call rfl rfl Try.call19 rfl (lLane_j l ha pa hc pc (by omega) (by omega))) (fun _ => ⟨hsub_drop 0 rfl, fun _ h => h.2⟩) fun ⟨⟨ha1, hc1⟩, pa1, pc1⟩ => ?_
      -- stop: op  3 t31 := (call (Call (value f30) (t30) (57)))   <2 1>   252
      refine JA_one (i := 3) (by kernel_rfl) rfl rfl rfl (jo_callv rfl rfl Try.call30 rfl (lPocket_j p)) (fun _ => ⟨hsub_refl, fun _ h => h⟩) fun _ => ?_
      -- stop: op  4 t32 := (call (Call (value f29) (t29 t31) (37 62)))   <1 3 3>   252
      refine JA_one (i := 4) (by kernel_rfl) rfl rfl rfl (jo_call rfl rfl Try.call29 rfl (Aims_jo l p ha1 pa1 hc1 pc1 hea)) (fun _ => ⟨hsub_drop 0 rfl, fun _ h => h.2⟩) fun ⟨ra, rc⟩ => ?_
      refine JA_pd (i := 5) rfl (by kernel_rfl) rfl rfl (det_move rfl) ?_
      refine JA_pd (i := 6) rfl (by kernel_rfl) rfl rfl (det_extract rfl rfl) ?_
      refine JA_pd (i := 7) rfl (by kernel_rfl) rfl rfl (det_extract rfl rfl) ?_
      refine JA_pd (i := 8) rfl (by kernel_rfl) rfl rfl (det_assign rfl) ?_
      refine JA_pd (i := 9) rfl (by kernel_rfl) rfl rfl (det_assign rfl) ?_
      refine JA_done (by kernel_rfl) ?_
      refine JE_seq ?_
      refine JC_seq ?_
      -- stop: draw
      refine JC_cut2 (γ := Nat) (fun _ => True) (fun b => [(11, I be), (10, I bn), (9, pt b), (8, I 0), (7, .slice ra (aimsL l p).length rc), (5, pt b5), (4, pt b4), (3, pt b3)])
        (fun b => [bx b [I bs.b, I bs.d], bx b5 [I p.boards.lo, I p.boards.hi, I p.dirs.lo, I p.dirs.hi], bx b4 [I s.b, I s.d], bx b3 [I l.boards, I l.rows, .slice ha l.hooks.length hc, .slice pa l.patches.length pc]]) (fun _ => KAnd (KSl ra (aimsL l p).length rc encSt (aimsL l p)) (KLane l ha hc pa pc)) ?_ ?_
      · intro K hK
        refine JC_draw [10] (by kernel_rfl) ?_
        refine JA_dt (i := 0) rfl (by kernel_rfl) (by kernel_rfl) rfl rfl (det_loadKA rfl Try.isAgg25 Try.sizeOf25 rfl rfl) ?_
        refine JA_dt (i := 2) rfl (by kernel_rfl) (by kernel_rfl) rfl rfl (det_loadKA rfl Try.isAgg57 Try.sizeOf57 rfl rfl) ?_
        -- stop: multi [1, 9]
        refine JA_ready (rs := [1, 9]) (by kernel_rfl) rfl ?_
        refine JAl_cons (i := 1) rfl rfl rfl (jo_call rfl rfl Try.call19 rfl (lLane_j l ha pa hc pc (by omega) (by omega))) (fun _ => ⟨hsub_drop 0 rfl, fun _ h => h.2⟩) (fun x37 => ?_) ?_
        · refine JA_ready (rs := [3, 9]) (by kernel_rfl) rfl ?_
          refine JAl_cons (i := 3) rfl rfl rfl (jo_callv rfl rfl Try.call30 rfl (lPocket_j p)) (fun _ => ⟨hsub_refl, fun _ h => h⟩) (fun _ => ?_) ?_
          · refine JA_ready (rs := [4, 9]) (by kernel_rfl) rfl ?_
            refine JAl_cons (i := 4) rfl rfl rfl (jo_callv rfl rfl Try.call31 rfl (Best_j2 l p x37.1.1 x37.2.1 x37.1.2 x37.2.2 hea bs bn be hq)) (fun _ => ⟨hsub_refl, fun _ h => h⟩) (fun _ => ?_) ?_
            · refine JA_pd (i := 5) rfl (by kernel_rfl) rfl rfl (det_move rfl) ?_
              refine JA_pd (i := 6) rfl (by kernel_rfl) rfl rfl (det_extract rfl rfl) ?_
              refine JA_pd (i := 7) rfl (by kernel_rfl) rfl rfl (det_extract rfl rfl) ?_
              refine JA_pd (i := 8) rfl (by kernel_rfl) rfl rfl (det_extract rfl rfl) ?_
              refine JA_one (i := 9) (by kernel_rfl) rfl rfl rfl (jo_alloc0 Try.zeroValue39 rfl) (fun _ => ⟨hsub_drop 1 rfl, fun _ h => h⟩) fun b9 => ?_
              refine JA_tail (i := 10) (by kernel_rfl) rfl rfl rfl rfl rfl (jo_store rfl rfl rfl (by first | (simp only [splice_norm]; done) | (simp only [splice_norm]; rfl) | rfl) Try.sizeOf39 rfl rfl) fun _ => ?_
              refine JT_pd (i := 11) rfl (by kernel_rfl) rfl rfl (det_assign rfl) ?_
              refine JT_pd (i := 12) rfl (by kernel_rfl) rfl rfl (det_assign rfl) ?_
              refine JT_done (by kernel_rfl) ?_
              exact JE_cut hK b9 trivial (stsub_cons rfl (stsub_cons rfl (stsub_cons rfl (stsub_cons rfl (stsub_cons rfl (stsub_cons rfl (stsub_cons rfl (stsub_cons rfl stsub_nil)))))))) (hsub_cons (hsub_cons (hsub_cons (hsub_cons hsub_nil)))) Knows.know
            refine JAl_cons (i := 9) rfl rfl rfl (jo_alloc0 Try.zeroValue39 rfl) (fun _ => ⟨hsub_drop 1 rfl, fun _ h => h⟩) (fun b9 => ?_) ?_
            · refine JA_one (i := 4) (by kernel_rfl) rfl rfl rfl (jo_callv rfl rfl Try.call31 rfl (Best_j2 l p x37.1.1 x37.2.1 x37.1.2 x37.2.2 hea bs bn be hq)) (fun _ => ⟨hsub_refl, fun _ h => h⟩) fun _ => ?_
              refine JA_pd (i := 5) rfl (by kernel_rfl) rfl rfl (det_move rfl) ?_
              refine JA_pd (i := 6) rfl (by kernel_rfl) rfl rfl (det_extract rfl rfl) ?_
              refine JA_pd (i := 7) rfl (by kernel_rfl) rfl rfl (det_extract rfl rfl) ?_
              refine JA_pd (i := 8) rfl (by kernel_rfl) rfl rfl (det_extract rfl rfl) ?_
              refine JA_tail (i := 10) (by kernel_rfl) rfl rfl rfl rfl rfl (jo_store rfl rfl rfl (by first | (simp only [splice_norm]; done) | (simp only [splice_norm]; rfl) | rfl) Try.sizeOf39 rfl rfl) fun _ => ?_
              refine JT_pd (i := 11) rfl (by kernel_rfl) rfl rfl (det_assign rfl) ?_
              refine JT_pd (i := 12) rfl (by kernel_rfl) rfl rfl (det_assign rfl) ?_
              refine JT_done (by kernel_rfl) ?_
              exact JE_cut hK b9 trivial (stsub_cons rfl (stsub_cons rfl (stsub_cons rfl (stsub_cons rfl (stsub_cons rfl (stsub_cons rfl (stsub_cons rfl (stsub_cons rfl stsub_nil)))))))) (hsub_cons (hsub_cons (hsub_cons (hsub_cons hsub_nil)))) Knows.know
            exact JAl_nil
          refine JAl_cons (i := 9) rfl rfl rfl (jo_alloc0 Try.zeroValue39 rfl) (fun _ => ⟨hsub_drop 1 rfl, fun _ h => h⟩) (fun b9 => ?_) ?_
          · refine JA_one (i := 3) (by kernel_rfl) rfl rfl rfl (jo_callv rfl rfl Try.call30 rfl (lPocket_j p)) (fun _ => ⟨hsub_refl, fun _ h => h⟩) fun _ => ?_
            refine JA_one (i := 4) (by kernel_rfl) rfl rfl rfl (jo_callv rfl rfl Try.call31 rfl (Best_j2 l p x37.1.1 x37.2.1 x37.1.2 x37.2.2 hea bs bn be hq)) (fun _ => ⟨hsub_refl, fun _ h => h⟩) fun _ => ?_
            refine JA_pd (i := 5) rfl (by kernel_rfl) rfl rfl (det_move rfl) ?_
            refine JA_pd (i := 6) rfl (by kernel_rfl) rfl rfl (det_extract rfl rfl) ?_
            refine JA_pd (i := 7) rfl (by kernel_rfl) rfl rfl (det_extract rfl rfl) ?_
            refine JA_pd (i := 8) rfl (by kernel_rfl) rfl rfl (det_extract rfl rfl) ?_
            refine JA_tail (i := 10) (by kernel_rfl) rfl rfl rfl rfl rfl (jo_store rfl rfl rfl (by first | (simp only [splice_norm]; done) | (simp only [splice_norm]; rfl) | rfl) Try.sizeOf39 rfl rfl) fun _ => ?_
            refine JT_pd (i := 11) rfl (by kernel_rfl) rfl rfl (det_assign rfl) ?_
            refine JT_pd (i := 12) rfl (by kernel_rfl) rfl rfl (det_assign rfl) ?_
            refine JT_done (by kernel_rfl) ?_
            exact JE_cut hK b9 trivial (stsub_cons rfl (stsub_cons rfl (stsub_cons rfl (stsub_cons rfl (stsub_cons rfl (stsub_cons rfl (stsub_cons rfl (stsub_cons rfl stsub_nil)))))))) (hsub_cons (hsub_cons (hsub_cons (hsub_cons hsub_nil)))) Knows.know
          exact JAl_nil
        refine JAl_cons (i := 9) rfl rfl rfl (jo_alloc0 Try.zeroValue39 rfl) (fun _ => ⟨hsub_drop 1 rfl, fun _ h => h⟩) (fun b9 => ?_) ?_
        · refine JA_one (i := 1) (by kernel_rfl) rfl rfl rfl (jo_call rfl rfl Try.call19 rfl (lLane_j l ha pa hc pc (by omega) (by omega))) (fun _ => ⟨hsub_drop 0 rfl, fun _ h => h.2⟩) fun x37 => ?_
          refine JA_one (i := 3) (by kernel_rfl) rfl rfl rfl (jo_callv rfl rfl Try.call30 rfl (lPocket_j p)) (fun _ => ⟨hsub_refl, fun _ h => h⟩) fun _ => ?_
          refine JA_one (i := 4) (by kernel_rfl) rfl rfl rfl (jo_callv rfl rfl Try.call31 rfl (Best_j2 l p x37.1.1 x37.2.1 x37.1.2 x37.2.2 hea bs bn be hq)) (fun _ => ⟨hsub_refl, fun _ h => h⟩) fun _ => ?_
          refine JA_pd (i := 5) rfl (by kernel_rfl) rfl rfl (det_move rfl) ?_
          refine JA_pd (i := 6) rfl (by kernel_rfl) rfl rfl (det_extract rfl rfl) ?_
          refine JA_pd (i := 7) rfl (by kernel_rfl) rfl rfl (det_extract rfl rfl) ?_
          refine JA_pd (i := 8) rfl (by kernel_rfl) rfl rfl (det_extract rfl rfl) ?_
          refine JA_tail (i := 10) (by kernel_rfl) rfl rfl rfl rfl rfl (jo_store rfl rfl rfl (by first | (simp only [splice_norm]; done) | (simp only [splice_norm]; rfl) | rfl) Try.sizeOf39 rfl rfl) fun _ => ?_
          refine JT_pd (i := 11) rfl (by kernel_rfl) rfl rfl (det_assign rfl) ?_
          refine JT_pd (i := 12) rfl (by kernel_rfl) rfl rfl (det_assign rfl) ?_
          refine JT_done (by kernel_rfl) ?_
          exact JE_cut hK b9 trivial (stsub_cons rfl (stsub_cons rfl (stsub_cons rfl (stsub_cons rfl (stsub_cons rfl (stsub_cons rfl (stsub_cons rfl (stsub_cons rfl stsub_nil)))))))) (hsub_cons (hsub_cons (hsub_cons (hsub_cons hsub_nil)))) Knows.know
        exact JAl_nil
      rintro b9 -
      refine JC_seq ?_
      refine JC_draw [] (by kernel_rfl) ?_
      refine JA_dt (i := 0) rfl (by kernel_rfl) (by kernel_rfl) rfl rfl (det_loadKA rfl Try.isAgg25 Try.sizeOf25 rfl rfl) ?_
      refine JA_dt (i := 2) rfl (by kernel_rfl) (by kernel_rfl) rfl rfl (det_loadKA rfl Try.isAgg27 Try.sizeOf27 rfl rfl) ?_
      refine JA_dt (i := 4) rfl (by kernel_rfl) (by kernel_rfl) rfl rfl (det_loadKA rfl Try.isAgg57 Try.sizeOf57 rfl rfl) ?_
      refine JA_one (i := 1) (by kernel_rfl) rfl rfl rfl (jo_call rfl rfl Try.call19 rfl (lLane_j l ha pa hc pc (by omega) (by omega))) (fun _ => ⟨hsub_drop 0 rfl, fun _ h => h.2⟩) fun x46 => ?_
      -- stop: op  3 t48 := (call (Call (value f20) (t47) (27)))   <2 1>   254
      refine JA_one (i := 3) (by kernel_rfl) rfl rfl rfl (jo_callv rfl rfl Try.call20 rfl (lStart_j s)) (fun _ => ⟨hsub_refl, fun _ h => h⟩) fun _ => ?_
      refine JA_one (i := 5) (by kernel_rfl) rfl rfl rfl (jo_callv rfl rfl Try.call30 rfl (lPocket_j p)) (fun _ => ⟨hsub_refl, fun _ h => h⟩) fun _ => ?_
      -- stop: op  6 t51 := (call (Call (value f45) (t46 t48 t50) (37 39 62)))   <1 3 5 5>   254
      refine JA_one (i := 6) (by kernel_rfl) rfl rfl rfl (jo_callv rfl rfl Try.call45 rfl (Hits_jo l s p x46.1.1 x46.2.1 x46.1.2 x46.2.2 heh)) (fun _ => ⟨hsub_refl, fun _ h => h⟩) fun _ => ?_
      refine JA_pd (i := 7) rfl (by kernel_rfl) rfl rfl (det_move rfl) ?_
      refine JA_pd (i := 8) rfl (by kernel_rfl) rfl rfl (det_extract rfl rfl) ?_
      refine JA_pd (i := 9) rfl (by kernel_rfl) rfl rfl (det_extract rfl rfl) ?_
      refine JA_pd (i := 10) rfl (by kernel_rfl) rfl rfl (det_assign rfl) ?_
      refine JA_pd (i := 11) rfl (by kernel_rfl) rfl rfl (det_assign rfl) ?_
      refine JA_done (by kernel_rfl) ?_
      refine JE_seq ?_
      refine JC_seq ?_
      refine JC_seq ?_
      refine JC_region ?_
      refine JL_pd rfl (det_move rfl) ?_
      refine JL_pd rfl (det_neq rfl rfl) ?_
      refine JL_pd rfl (det_move rfl) ?_
      -- stop: guard 2
      refine JL_is (d0 := 56) false rfl (by rfl) (fun g1 => ?_)
      refine JL_guard rfl rfl g1 ?_
      refine JL_pd rfl (det_move rfl) ?_
      refine JL_guard rfl rfl g1 ?_
      refine JL_pd rfl (det_neq rfl rfl) ?_
      refine JL_pd rfl (det_pick_f rfl g1 rfl) ?_
      refine JL_pd rfl (det_move rfl) ?_
      -- stop: guard 6
      refine JL_is (d0 := 60) false rfl (by rfl) (fun g2 => ?_)
      refine JL_guard rfl rfl g2 ?_
      refine JL_pd rfl (det_move rfl) ?_
      refine JL_guard rfl rfl g2 ?_
      refine JL_pd rfl (det_eql rfl rfl) ?_
      refine JL_guard rfl rfl g2 ?_
      refine JL_pd rfl (det_move rfl) ?_
      refine JL_guard rfl rfl g2 ?_
      refine JL_dt rfl (det_loadKA rfl Try.isAgg27 Try.sizeOf27 rfl rfl) ?_
      refine JL_guard rfl rfl g2 ?_
      -- stop: op 11 t65 := (call (Call (value f20) (t64) (27)))   <10 6 6>   255
      refine JL_step rfl rfl rfl (jo_callv rfl rfl Try.call20 rfl (lStart_j s)) fun _ => ?_
      refine JL_guard rfl rfl g2 ?_
      -- stop: op 12 t66 := (call (Call (value f46) (t63 t65) (30 39)))   <9 11 11 6>   255
      refine JL_step rfl rfl rfl (jo_callv rfl rfl Try.call46 rfl (lhas_j (aimsL l p) ra rc s (by omega))) fun _ => ?_
      refine JL_guard rfl rfl g2 ?_
      refine JL_pd rfl (det_neqB rfl rfl Try.underlying4) ?_
      refine JL_pd rfl (det_pick_f rfl g2 rfl) ?_
      refine JL_nil ?_
      refine JE_seq ?_
      -- stop: cond
      refine JC_cond rfl (fun h3 => ?_) (fun h3 => ?_)
      · simp [hsu] at h3
      · refine JC_skip ?_
        refine JE_seq ?_
        refine JC_seq ?_
        refine JC_seq ?_
        refine JC_region ?_
        refine JL_pd rfl (det_move rfl) ?_
        refine JL_pd rfl (det_len rfl Try.runUnderlying30) ?_
        refine JL_pd rfl (det_eql rfl rfl) ?_
        refine JL_nil ?_
        refine JE_seq ?_
        -- stop: cond
        refine JC_if rfl (fun h4 => ?_) (fun h4 => ?_)
        · have e9 : be = 9 := hnil (List.eq_nil_of_length_eq_zero (by omega))
          refine JC_seq ?_
          refine JC_region ?_
          refine JL_pd rfl (det_move rfl) ?_
          refine JL_pd rfl (det_eql rfl rfl) ?_
          refine JL_pd rfl (det_move rfl) ?_
          -- stop: guard 2
          refine JL_is (d0 := 74) true rfl (by simp [e9]) (fun g3 => ?_)
          refine JL_guard rfl rfl g3 ?_
          -- stop: op  3 t75 := (call (Call (value f17) () ()))   <2 2>   259
          refine JL_step rfl rfl rfl (jo_callv rfl rfl Try.call17 rfl (lawake_j)) fun _ => ?_
          refine JL_pd rfl (det_pick_t rfl g3 rfl) ?_
          refine JL_pd rfl (det_assign rfl) ?_
          refine JL_nil ?_
          refine JE_seq ?_
          refine JC_ret ?_
          refine JE_seq_ret ?_
          -- stop: out
          refine JE_out (.inl rfl) () (results1 Try.results11 (res_tmp rfl)) rfl (List.Perm.refl _) (fun _ _ => trivial)
        · obtain ⟨e0, en, em, ele, elt⟩ := hcons (fun e => h4 (by rw [e]; rfl))
          have hbb := aims_bd em b2
          have hrp := room_pos em
          refine JC_skip ?_
          refine JE_seq ?_
          refine JC_seq ?_
          refine JC_seq ?_
          refine JC_region ?_
          refine JL_pd rfl (det_move rfl) ?_
          refine JL_pd rfl (det_neq rfl rfl) ?_
          refine JL_pd rfl (det_move rfl) ?_
          -- stop: guard 2
          refine JL_is (d0 := 79) false rfl (by simp [e0]) (fun g3 => ?_)
          refine JL_guard rfl rfl g3 ?_
          refine JL_pd rfl (det_move rfl) ?_
          refine JL_guard rfl rfl g3 ?_
          refine JL_pd rfl (det_lss rfl rfl) ?_
          refine JL_pd rfl (det_pick_f rfl g3 rfl) ?_
          refine JL_pd rfl (det_move rfl) ?_
          -- stop: guard 6
          refine JL_is (d0 := 83) false rfl (by simp; omega) (fun g4 => ?_)
          refine JL_guard rfl rfl g4 ?_
          refine JL_pd rfl (det_move rfl) ?_
          refine JL_guard rfl rfl g4 ?_
          refine JL_dt rfl (det_loadKA rfl Try.isAgg39 Try.sizeOf39 rfl rfl) ?_
          refine JL_guard rfl rfl g4 ?_
          -- stop: op  9 t86 := (call (Call (value f47) (t84 t85) (30 39)))   <7 8 6 6>   261
          refine JL_step rfl rfl rfl (jo_callv rfl rfl Try.call47 rfl (lroom_j l p bs ra rc b2 hbb.1 hbb.2.1)) fun _ => ?_
          refine JL_guard rfl rfl g4 ?_
          refine JL_pd rfl (det_move rfl) ?_
          refine JL_guard rfl rfl g4 ?_
          refine JL_pd rfl (det_neq rfl rfl) ?_
          refine JL_pd rfl (det_pick_f rfl g4 rfl) ?_
          refine JL_nil ?_
          refine JE_seq ?_
          -- stop: cond
          refine JC_ifn rfl (fun h5 => ?_) (fun h5 => ?_)
          · exact absurd en.symm h5
          · refine JC_skip ?_
            refine JE_seq ?_
            refine JC_seq ?_
            refine JC_seq ?_
            refine JC_region ?_
            refine JL_pd rfl (det_assign rfl) ?_
            refine JL_nil ?_
            refine JE_seq ?_
            refine JC_block ?_
            -- stop: loop
            refine JC_loop (γ := Nat) (I := fun i => i ≤ (aimsL l p).length) (st' := fun i => [(14, I i), (10, I bn), (9, pt b9), (7, .slice ra (aimsL l p).length rc)]) (H' := fun _ => [bx b9 [I bs.b, I bs.d]])
              (R' := fun _ => KSl ra (aimsL l p).length rc encSt (aimsL l p)) (μ := fun i => (aimsL l p).length - i) 0 (by omega) (stsub_cons rfl (stsub_cons rfl (stsub_cons rfl (stsub_cons rfl stsub_nil)))) (hsub_cons hsub_nil) Knows.know ?_
            intro i hi K hK
            refine JC_seq ?_
            refine JC_seq ?_
            refine JC_region ?_
            refine JL_pd rfl (det_move rfl) ?_
            refine JL_pd rfl (det_move rfl) ?_
            refine JL_pd rfl (det_len rfl Try.runUnderlying30) ?_
            refine JL_pd rfl (det_lss rfl rfl) ?_
            refine JL_nil ?_
            refine JE_seq ?_
            -- stop: cond
            refine JC_if rfl (fun h6 => ?_) (fun h6 => ?_)
            · have hi2 : i < (aimsL l p).length := by omega
              have hm := List.getElem_mem hi2
              have hb1 := aims_bd hm b2
              have hr1 := room_pos hm
              have hle := ele _ hm
              have hlt := elt _ hm
              simp only [lessS, decide_eq_true_eq] at hlt
              refine JC_skip ?_
              refine JE_seq ?_
              refine JC_seq ?_
              refine JC_block ?_
              refine JC_seq ?_
              refine JC_region ?_
              refine JL_pd rfl (det_move rfl) ?_
              refine JL_pd rfl (det_move rfl) ?_
              refine JL_pd rfl (det_move rfl) ?_
              refine JL_dt rfl (det_indexAddr rfl rfl (by first | rfl | omega) (by first | assumption | omega | decide) Try.runUnderlying30 Try.sizeOf39) ?_
              refine JL_dt rfl (det_loadEA rfl (by first | assumption | omega | decide) Try.isAgg39 Try.sizeOf39 rfl rfl rfl) ?_
              -- stop: op  5 t101 := (call (Call (value f47) (t96 t100) (30 39)))   <0 4>   265
              refine JL_step rfl rfl rfl (jo_callv rfl rfl Try.call47 rfl (lroom_j l p (aimsL l p)[i] ra rc b2 hb1.1 hb1.2.1)) fun _ => ?_
              refine JL_pd rfl (det_assign rfl) ?_
              refine JL_nil ?_
              refine JE_seq ?_
              refine JC_seq ?_
              refine JC_draw [] (by kernel_rfl) ?_
              refine JA_pd (i := 0) rfl (by kernel_rfl) rfl rfl (det_move rfl) ?_
              refine JA_pd (i := 1) rfl (by kernel_rfl) rfl rfl (det_move rfl) ?_
              refine JA_dt (i := 2) rfl (by kernel_rfl) (by kernel_rfl) rfl rfl (det_indexAddr rfl rfl (by first | rfl | omega) (by first | assumption | omega | decide) Try.runUnderlying30 Try.sizeOf39) ?_
              refine JA_pd (i := 3) rfl (by kernel_rfl) rfl rfl (det_fieldAddrE rfl fo_39_0) ?_
              refine JA_dt (i := 4) rfl (by kernel_rfl) (by kernel_rfl) rfl rfl (det_loadEk rfl (by first | assumption | omega | decide) Try.isAgg3 rfl rfl) ?_
              refine JA_pd (i := 5) rfl (by kernel_rfl) rfl rfl (det_fieldAddr rfl fo_39_0) ?_
              refine JA_dt (i := 6) rfl (by kernel_rfl) (by kernel_rfl) rfl rfl (det_loadK rfl Try.isAgg3 rfl) ?_
              refine JA_pd (i := 7) rfl (by kernel_rfl) rfl rfl (det_lss rfl rfl) ?_
              refine JA_pd (i := 8) rfl (by kernel_rfl) rfl rfl (det_move rfl) ?_
              -- stop: guard 8
              refine JA_split (d0 := 110) rfl (fun g8 => ?_) (fun g8 => ?_)
              · refine JA_skip (i := 9) rfl (by kernel_rfl) rfl rfl rfl rfl g8 ?_
                refine JA_skip (i := 10) rfl (by kernel_rfl) rfl rfl rfl rfl g8 ?_
                refine JA_skip (i := 11) rfl (by kernel_rfl) rfl rfl rfl rfl g8 ?_
                refine JA_skip (i := 12) rfl (by kernel_rfl) rfl rfl rfl rfl g8 ?_
                refine JA_skip (i := 13) rfl (by kernel_rfl) rfl rfl rfl rfl g8 ?_
                refine JA_skip (i := 14) rfl (by kernel_rfl) rfl rfl rfl rfl g8 ?_
                refine JA_skip (i := 15) rfl (by kernel_rfl) rfl rfl rfl rfl g8 ?_
                refine JA_skip (i := 16) rfl (by kernel_rfl) rfl rfl rfl rfl g8 ?_
                refine JA_skip (i := 17) rfl (by kernel_rfl) rfl rfl rfl rfl g8 ?_
                refine JA_skipU (i := 18) rfl (by kernel_rfl) rfl rfl rfl rfl ?_
                refine JA_skipU (i := 19) rfl (by kernel_rfl) rfl rfl rfl rfl ?_
                refine JA_skipU (i := 20) rfl (by kernel_rfl) rfl rfl rfl rfl ?_
                refine JA_skipU (i := 21) rfl (by kernel_rfl) rfl rfl rfl rfl ?_
                refine JA_skipU (i := 22) rfl (by kernel_rfl) rfl rfl rfl rfl ?_
                refine JA_skipU (i := 23) rfl (by kernel_rfl) rfl rfl rfl rfl ?_
                refine JA_skipU (i := 24) rfl (by kernel_rfl) rfl rfl rfl rfl ?_
                refine JA_skipU (i := 25) rfl (by kernel_rfl) rfl rfl rfl rfl ?_
                refine JA_skip (i := 26) rfl (by kernel_rfl) rfl rfl rfl rfl g8 ?_
                refine JA_pd (i := 27) rfl (by kernel_rfl) rfl rfl (det_pick_t rfl g8 rfl) ?_
                refine JA_pd (i := 28) rfl (by kernel_rfl) rfl rfl (det_assign rfl) ?_
                refine JA_done (by kernel_rfl) ?_
                refine JE_seq ?_
                refine JC_seq ?_
                refine JC_region ?_
                refine JL_pd rfl (det_move rfl) ?_
                refine JL_pd rfl (det_move rfl) ?_
                refine JL_pd rfl (det_gtr rfl rfl) ?_
                refine JL_pd rfl (det_move rfl) ?_
                -- stop: guard 3
                have g8b := of_decide_eq_true g8
                have hlt2 := hlt (.inl g8b)
                refine JL_is (d0 := 133) false rfl (by simp; omega) (fun f1 => ?_)
                refine JL_guard rfl rfl f1 ?_
                refine JL_pd rfl (det_move rfl) ?_
                refine JL_guard rfl rfl f1 ?_
                refine JL_pd rfl (det_move rfl) ?_
                -- stop: guard 5
                refine JL_is (d0 := 135) true rfl (by rfl) (fun f2 => ?_)
                refine JL_guard rfl rfl f2 ?_
                refine JL_pd rfl (det_move rfl) ?_
                refine JL_guard rfl rfl f2 ?_
                refine JL_pd rfl (det_move rfl) ?_
                refine JL_guard rfl rfl f2 ?_
                refine JL_pd rfl (det_eql rfl rfl) ?_
                refine JL_guard rfl rfl f1 ?_
                refine JL_pd rfl (det_pick_t rfl f2 rfl) ?_
                refine JL_pd rfl (det_pick_f rfl f1 rfl) ?_
                refine JL_pd rfl (det_move rfl) ?_
                -- stop: guard 11
                refine JL_is (d0 := 141) false rfl (by simp; omega) (fun f3 => ?_)
                refine JL_guard rfl rfl f3 ?_
                refine JL_pd rfl (det_move rfl) ?_
                refine JL_guard rfl rfl f3 ?_
                refine JL_pd rfl (det_lss rfl rfl) ?_
                refine JL_pd rfl (det_pick_f rfl f3 rfl) ?_
                refine JL_nil ?_
                refine JE_seq ?_
                -- stop: cond
                refine JC_if rfl (fun f4 => ?_) (fun f4 => ?_)
                · omega
                · refine JC_skip ?_
                  refine JE_block ?_
                  refine JE_seq ?_
                  refine JC_region ?_
                  refine JL_pd rfl (det_move rfl) ?_
                  refine JL_pd rfl (det_add rfl rfl ⟨by omega, by omega⟩) ?_
                  refine JL_pd rfl (det_assign rfl) ?_
                  refine JL_nil ?_
                  -- stop: end
                  refine JE_round hK (i + 1) (by omega) (by omega) (stsub_consI rfl (by omega) (stsub_cons rfl (stsub_cons rfl (stsub_cons rfl stsub_nil)))) (hsub_cons hsub_nil) Knows.know
              · have g8b := of_decide_eq_false g8
                refine JA_gpd (i := 9) rfl (by kernel_rfl) rfl rfl rfl rfl g8 (det_move rfl) ?_
                refine JA_gpd (i := 10) rfl (by kernel_rfl) rfl rfl rfl rfl g8 (det_move rfl) ?_
                refine JA_gdt (i := 11) rfl (by kernel_rfl) (by kernel_rfl) rfl rfl rfl rfl g8 (det_indexAddr rfl rfl (by first | rfl | omega) (by first | assumption | omega | decide) Try.runUnderlying30 Try.sizeOf39) ?_
                refine JA_gpd (i := 12) rfl (by kernel_rfl) rfl rfl rfl rfl g8 (det_fieldAddrE rfl fo_39_0) ?_
                refine JA_gdt (i := 13) rfl (by kernel_rfl) (by kernel_rfl) rfl rfl rfl rfl g8 (det_loadEk rfl (by first | assumption | omega | decide) Try.isAgg3 rfl rfl) ?_
                refine JA_gpd (i := 14) rfl (by kernel_rfl) rfl rfl rfl rfl g8 (det_fieldAddr rfl fo_39_0) ?_
                refine JA_gdt (i := 15) rfl (by kernel_rfl) (by kernel_rfl) rfl rfl rfl rfl g8 (det_loadK rfl Try.isAgg3 rfl) ?_
                refine JA_gpd (i := 16) rfl (by kernel_rfl) rfl rfl rfl rfl g8 (det_eql rfl rfl) ?_
                refine JA_gpd (i := 17) rfl (by kernel_rfl) rfl rfl rfl rfl g8 (det_move rfl) ?_
                -- stop: guard 17
                refine JA_split (d0 := 119) rfl (fun g9 => ?_) (fun g9 => ?_)
                · have g9b := of_decide_eq_true g9
                  refine JA_gpd (i := 18) rfl (by kernel_rfl) rfl rfl rfl rfl g9 (det_move rfl) ?_
                  refine JA_gpd (i := 19) rfl (by kernel_rfl) rfl rfl rfl rfl g9 (det_move rfl) ?_
                  refine JA_gdt (i := 20) rfl (by kernel_rfl) (by kernel_rfl) rfl rfl rfl rfl g9 (det_indexAddr rfl rfl (by first | rfl | omega) (by first | assumption | omega | decide) Try.runUnderlying30 Try.sizeOf39) ?_
                  refine JA_gpd (i := 21) rfl (by kernel_rfl) rfl rfl rfl rfl g9 (det_fieldAddrE rfl fo_39_1) ?_
                  refine JA_gdt (i := 22) rfl (by kernel_rfl) (by kernel_rfl) rfl rfl rfl rfl g9 (det_loadEk rfl (by first | assumption | omega | decide) Try.isAgg3 rfl rfl) ?_
                  refine JA_gpd (i := 23) rfl (by kernel_rfl) rfl rfl rfl rfl g9 (det_fieldAddr rfl fo_39_1) ?_
                  refine JA_gdt (i := 24) rfl (by kernel_rfl) (by kernel_rfl) rfl rfl rfl rfl g9 (det_loadK rfl Try.isAgg3 rfl) ?_
                  refine JA_gpd (i := 25) rfl (by kernel_rfl) rfl rfl rfl rfl g9 (det_lss rfl rfl) ?_
                  refine JA_gpd (i := 26) rfl (by kernel_rfl) rfl rfl rfl rfl g8 (det_pick_t rfl g9 rfl) ?_
                  refine JA_pd (i := 27) rfl (by kernel_rfl) rfl rfl (det_pick_f rfl g8 rfl) ?_
                  refine JA_pd (i := 28) rfl (by kernel_rfl) rfl rfl (det_assign rfl) ?_
                  refine JA_done (by kernel_rfl) ?_
                  refine JE_seq ?_
                  refine JC_seq ?_
                  refine JC_region ?_
                  refine JL_pd rfl (det_move rfl) ?_
                  refine JL_pd rfl (det_move rfl) ?_
                  refine JL_pd rfl (det_gtr rfl rfl) ?_
                  refine JL_pd rfl (det_move rfl) ?_
                  -- stop: guard 3
                  refine JL_is (d0 := 133) false rfl (by simp; omega) (fun f1 => ?_)
                  refine JL_guard rfl rfl f1 ?_
                  refine JL_pd rfl (det_move rfl) ?_
                  refine JL_guard rfl rfl f1 ?_
                  refine JL_pd rfl (det_move rfl) ?_
                  -- stop: guard 5
                  refine JL_split (d0 := 135) rfl (fun g10 => ?_) (fun g10 => ?_)
                  · have hlt2 := hlt (.inr ⟨g9b, of_decide_eq_true g10⟩)
                    refine JL_guard rfl rfl g10 ?_
                    refine JL_pd rfl (det_move rfl) ?_
                    refine JL_guard rfl rfl g10 ?_
                    refine JL_pd rfl (det_move rfl) ?_
                    refine JL_guard rfl rfl g10 ?_
                    refine JL_pd rfl (det_eql rfl rfl) ?_
                    refine JL_guard rfl rfl f1 ?_
                    refine JL_pd rfl (det_pick_t rfl g10 rfl) ?_
                    refine JL_pd rfl (det_pick_f rfl f1 rfl) ?_
                    refine JL_pd rfl (det_move rfl) ?_
                    -- stop: guard 11
                    refine JL_is (d0 := 141) false rfl (by simp; omega) (fun f3 => ?_)
                    refine JL_guard rfl rfl f3 ?_
                    refine JL_pd rfl (det_move rfl) ?_
                    refine JL_guard rfl rfl f3 ?_
                    refine JL_pd rfl (det_lss rfl rfl) ?_
                    refine JL_pd rfl (det_pick_f rfl f3 rfl) ?_
                    refine JL_nil ?_
                    refine JE_seq ?_
                    -- stop: cond
                    refine JC_if rfl (fun f4 => ?_) (fun f4 => ?_)
                    · omega
                    · refine JC_skip ?_
                      refine JE_block ?_
                      refine JE_seq ?_
                      refine JC_region ?_
                      refine JL_pd rfl (det_move rfl) ?_
                      refine JL_pd rfl (det_add rfl rfl ⟨by omega, by omega⟩) ?_
                      refine JL_pd rfl (det_assign rfl) ?_
                      refine JL_nil ?_
                      -- stop: end
                      refine JE_round hK (i + 1) (by omega) (by omega) (stsub_consI rfl (by omega) (stsub_cons rfl (stsub_cons rfl (stsub_cons rfl stsub_nil)))) (hsub_cons hsub_nil) Knows.know
                  · refine JL_skip rfl rfl g10 rfl ?_
                    refine JL_skip rfl rfl g10 rfl ?_
                    refine JL_skip rfl rfl g10 rfl ?_
                    refine JL_guard rfl rfl f1 ?_
                    refine JL_pd rfl (det_pick_f rfl g10 rfl) ?_
                    refine JL_pd rfl (det_pick_f rfl f1 rfl) ?_
                    refine JL_pd rfl (det_move rfl) ?_
                    -- stop: guard 11
                    refine JL_is (d0 := 141) false rfl (by rfl) (fun f3 => ?_)
                    refine JL_guard rfl rfl f3 ?_
                    refine JL_pd rfl (det_move rfl) ?_
                    refine JL_guard rfl rfl f3 ?_
                    refine JL_pd rfl (det_lss rfl rfl) ?_
                    refine JL_pd rfl (det_pick_f rfl f3 rfl) ?_
                    refine JL_nil ?_
                    refine JE_seq ?_
                    -- stop: cond
                    refine JC_if rfl (fun f4 => ?_) (fun f4 => ?_)
                    · omega
                    · refine JC_skip ?_
                      refine JE_block ?_
                      refine JE_seq ?_
                      refine JC_region ?_
                      refine JL_pd rfl (det_move rfl) ?_
                      refine JL_pd rfl (det_add rfl rfl ⟨by omega, by omega⟩) ?_
                      refine JL_pd rfl (det_assign rfl) ?_
                      refine JL_nil ?_
                      -- stop: end
                      refine JE_round hK (i + 1) (by omega) (by omega) (stsub_consI rfl (by omega) (stsub_cons rfl (stsub_cons rfl (stsub_cons rfl stsub_nil)))) (hsub_cons hsub_nil) Knows.know
                · refine JA_skip (i := 18) rfl (by kernel_rfl) rfl rfl rfl rfl g9 ?_
                  refine JA_skip (i := 19) rfl (by kernel_rfl) rfl rfl rfl rfl g9 ?_
                  refine JA_skip (i := 20) rfl (by kernel_rfl) rfl rfl rfl rfl g9 ?_
                  refine JA_skip (i := 21) rfl (by kernel_rfl) rfl rfl rfl rfl g9 ?_
                  refine JA_skip (i := 22) rfl (by kernel_rfl) rfl rfl rfl rfl g9 ?_
                  refine JA_skip (i := 23) rfl (by kernel_rfl) rfl rfl rfl rfl g9 ?_
                  refine JA_skip (i := 24) rfl (by kernel_rfl) rfl rfl rfl rfl g9 ?_
                  refine JA_skip (i := 25) rfl (by kernel_rfl) rfl rfl rfl rfl g9 ?_
                  refine JA_gpd (i := 26) rfl (by kernel_rfl) rfl rfl rfl rfl g8 (det_pick_f rfl g9 rfl) ?_
                  refine JA_pd (i := 27) rfl (by kernel_rfl) rfl rfl (det_pick_f rfl g8 rfl) ?_
                  refine JA_pd (i := 28) rfl (by kernel_rfl) rfl rfl (det_assign rfl) ?_
                  refine JA_done (by kernel_rfl) ?_
                  refine JE_seq ?_
                  refine JC_seq ?_
                  refine JC_region ?_
                  refine JL_pd rfl (det_move rfl) ?_
                  refine JL_pd rfl (det_move rfl) ?_
                  refine JL_pd rfl (det_gtr rfl rfl) ?_
                  refine JL_pd rfl (det_move rfl) ?_
                  -- stop: guard 3
                  refine JL_is (d0 := 133) false rfl (by simp; omega) (fun f1 => ?_)
                  refine JL_guard rfl rfl f1 ?_
                  refine JL_pd rfl (det_move rfl) ?_
                  refine JL_guard rfl rfl f1 ?_
                  refine JL_pd rfl (det_move rfl) ?_
                  -- stop: guard 5
                  refine JL_is (d0 := 135) false rfl (by rfl) (fun f2 => ?_)
                  refine JL_skip rfl rfl f2 rfl ?_
                  refine JL_skip rfl rfl f2 rfl ?_
                  refine JL_skip rfl rfl f2 rfl ?_
                  refine JL_guard rfl rfl f1 ?_
                  refine JL_pd rfl (det_pick_f rfl f2 rfl) ?_
                  refine JL_pd rfl (det_pick_f rfl f1 rfl) ?_
                  refine JL_pd rfl (det_move rfl) ?_
                  -- stop: guard 11
                  refine JL_is (d0 := 141) false rfl (by rfl) (fun f3 => ?_)
                  refine JL_guard rfl rfl f3 ?_
                  refine JL_pd rfl (det_move rfl) ?_
                  refine JL_guard rfl rfl f3 ?_
                  refine JL_pd rfl (det_lss rfl rfl) ?_
                  refine JL_pd rfl (det_pick_f rfl f3 rfl) ?_
                  refine JL_nil ?_
                  refine JE_seq ?_
                  -- stop: cond
                  refine JC_if rfl (fun f4 => ?_) (fun f4 => ?_)
                  · omega
                  · refine JC_skip ?_
                    refine JE_block ?_
                    refine JE_seq ?_
                    refine JC_region ?_
                    refine JL_pd rfl (det_move rfl) ?_
                    refine JL_pd rfl (det_add rfl rfl ⟨by omega, by omega⟩) ?_
                    refine JL_pd rfl (det_assign rfl) ?_
                    refine JL_nil ?_
                    -- stop: end
                    refine JE_round hK (i + 1) (by omega) (by omega) (stsub_consI rfl (by omega) (stsub_cons rfl (stsub_cons rfl (stsub_cons rfl stsub_nil)))) (hsub_cons hsub_nil) Knows.know
            · refine JC_exit ?_
              refine JE_seq_exit ?_
              refine JE_then_exit ?_
              refine JE_block_here ?_
              refine JE_seq ?_
              refine JC_seq ?_
              refine JC_region ?_
              -- stop: op  0 t145 := (call (Call (value f17) () ()))   271
              refine JL_step rfl rfl rfl (jo_callv rfl rfl Try.call17 rfl (lawake_j)) fun _ => ?_
              refine JL_pd rfl (det_assign rfl) ?_
              refine JL_nil ?_
              refine JE_seq ?_
              refine JC_ret ?_
              -- stop: out
              refine JE_out (.inl rfl) () (results1 Try.results11 (res_tmp rfl)) rfl (List.Perm.refl _) (fun _ _ => trivial)
end Go.Proofs.Ytcfhbnfincpehaa

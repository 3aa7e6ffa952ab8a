/- The reference's Fewest; the statements about cycle: CycleLocks. -/
import Derived.Test.YtgbfjcgjcnndpaaC44
import Derived.Test.YtgbfjcgjcnndpaaJ24
set_option linter.unusedSimpArgs false
set_option linter.unusedVariables false
namespace Go.Proofs.Ytgbfjcgjcnndpaa
open Go.RowKit Go.Shelf

theorem Serve_x (m : Mc) (a : MA) (u : Value) (ls : List Lk) (V : Valid m) (hl : ls.length ≤ 1000) : Cx Try.prog 42 [.agg #[I m.states, .slice a.sa m.steps.length a.sc, .slice a.ra m.running.length a.rc, .slice a.ka m.locks.length a.kc], u] [ow u 63 2 ls.length (ls.flatMap encLk)] (KMc m a) (fun _ : Unit => .bool (serveB m ls)) (fun _ => [ow u 63 2 ls.length (ls.flatMap encLk)]) (fun _ => KTrue) :=
  Cx.lendOw (args := fun u => [.agg #[I m.states, .slice a.sa m.steps.length a.sc, .slice a.ra m.running.length a.rc, .slice a.ka m.locks.length a.kc], u]) u ls fun ka kc => (Serve_j m a ls ka kc V hl).mono (fun _ h => ⟨h.2, h.1⟩) fun _ _ h => h
theorem bit_shr (s i : Nat) (hi : i < 64) : ((((s : Int).fdiv (2 ^ min ((i : Int)).toNat (IntKind.bits .i64))).tmod 2) = 1) ↔ s.testBit i = true := by
  rw [Int.toNat_natCast, show IntKind.bits .i64 = 64 from rfl, show min i 64 = i by omega]
  have e : ((s : Int).fdiv (2 ^ i)) = ((s / 2 ^ i : Nat) : Int) := by
    rw [Int.fdiv_eq_ediv_of_nonneg _ (Int.pow_nonneg (by decide))]
    rw [Int.natCast_ediv, Int.natCast_pow]; rfl
  rw [e, Nat.testBit_eq_decide_div_mod_eq, decide_eq_true_eq]
  generalize s / 2 ^ i = N
  rw [Int.tmod_eq_emod_of_nonneg (by omega)]
  omega
set_option maxRecDepth 100000 in
set_option maxHeartbeats 1000000 in
theorem Fewest_j (m : Mc) (a : MA) (he : fault m = 0) (hc : (candL m).length ≤ 10) : Cr Try.prog 33 [.agg #[I m.states, .slice a.sa m.steps.length a.sc, .slice a.ra m.running.length a.rc, .slice a.ka m.locks.length a.kc]] (KMc m a) (fun q : Option Addr × Nat => .tuple #[.slice q.1 (locksR m).length q.2, .bool (decide (locksE m = 0))]) (fun q => KSl q.1 (locksR m).length q.2 encLk (locksR m)) := by
  have V := valid_of he
  have hcj := Candidates_j m a V
  have hdone := fun best found (h : FwI m (candL m) (2 ^ (candL m).length) best found) => h.done he
  generalize candL m = all at hc hcj hdone
  have hp : 2 ^ all.length ≤ 1024 := Nat.le_trans (Nat.pow_le_pow_right (by decide) hc) (by decide)
  have hsh : (1 : Int) * 2 ^ min ((all.length : Int)).toNat 64 = ((2 ^ all.length : Nat) : Int) := by
    rw [Int.one_mul, Int.toNat_natCast, show min all.length 64 = all.length by omega, Int.natCast_pow]; rfl
  have hInI : InI ((1 : Int) * 2 ^ min ((all.length : Int)).toNat 64) := by
    have hN : ∀ N : Nat, N ≤ 1024 → InI (N : Int) := fun N h => by unfold InI; omega
    rw [hsh]
    exact hN _ hp
  refine Cx_of Try.func33 rfl Try.ntmps33 rfl fun w0 M0 => ?_
  refine JC_seq ?_
  refine JC_region ?_
  refine JL_step rfl rfl rfl (jo_box rfl rfl) fun b1 => ?_
  refine JL_pd rfl (det_assign rfl) ?_
  refine JL_pd rfl (det_assign rfl) ?_
  refine JL_nil ?_
  refine JE_seq ?_
  refine JC_seq ?_
  refine JC_region ?_
  refine JL_dt rfl (det_loadKA rfl Try.isAgg26 Try.sizeOf26 rfl rfl) ?_
  refine JL_step rfl rfl rfl (jo_call rfl rfl Try.call31 rfl (hcj)) fun x11 => ?_
  refine JL_pd rfl (det_assign rfl) ?_
  refine JL_nil ?_
  refine JE_seq ?_
  refine JC_seq ?_
  refine JC_region ?_
  refine JL_pd rfl (det_assign rfl) ?_
  refine JL_nil ?_
  refine JE_seq ?_
  refine JC_seq ?_
  refine JC_region ?_
  refine JL_pd rfl (det_assign rfl) ?_
  refine JL_nil ?_
  refine JE_seq ?_
  refine JC_seq ?_
  refine JC_seq ?_
  refine JC_region ?_
  refine JL_pd rfl (det_assign rfl) ?_
  refine JL_nil ?_
  refine JE_seq ?_
  refine JC_block ?_
  -- stop: loop
  refine JC_keep b1 noFp ?_
  refine JC_nil 63 2 ?_
  refine JC_loopF (γ := Nat × Value × List Lk × Bool) (fun q => q.1 ≤ 2 ^ all.length ∧ FwI m all q.1 q.2.2.1 q.2.2.2) (fun q => [(7, I q.1), (6, .bool q.2.2.2), (5, q.2.1)]) (fun q => [ow q.2.1 63 2 q.2.2.1.length (q.2.2.1.flatMap encLk)]) (fun q => 2 ^ all.length - q.1) (0, .slice none 0 0, [], false) ⟨Nat.zero_le _, FwI.zero m all⟩ (stsub_consI rfl rfl (stsub_consB rfl rfl (stsub_cons rfl stsub_nil))) (show HTake _ [ow (.slice none 0 0) 63 2 0 []] _ from ht_cons ht_nil) ?_
  rintro ⟨k, v, best, found⟩ ⟨hk, hF⟩ K hK
  dsimp only [List.cons_append, List.nil_append] at hk hF ⊢
  refine JC_seq ?_
  refine JC_seq ?_
  refine JC_region ?_
  refine JL_pd rfl (det_move rfl) ?_
  refine JL_pd rfl (det_move rfl) ?_
  refine JL_pd rfl (det_len rfl Try.runUnderlying24) ?_
  refine JL_pd rfl (det_convI rfl Try.runUnderlying3 Try.runUnderlying87 (u64_wrap ⟨by omega, by omega⟩)) ?_
  refine JL_pd rfl (det_shl rfl rfl (by omega) hInI) ?_
  refine JL_pd rfl (det_lss rfl rfl) ?_
  refine JL_nil ?_
  refine JE_seq ?_
  -- stop: cond
  rw [hsh]
  refine JC_if rfl (fun h1 => ?_) (fun h1 => ?_)
  · have hk2 : k < 2 ^ all.length := by omega
    refine JC_skip ?_
    refine JE_seq ?_
    refine JC_seq ?_
    refine JC_block ?_
    refine JC_seq ?_
    refine JC_region ?_
    refine JL_pd rfl (det_assign rfl) ?_
    refine JL_nil ?_
    refine JE_seq ?_
    refine JC_seq ?_
    refine JC_seq ?_
    refine JC_region ?_
    refine JL_pd rfl (det_assign rfl) ?_
    refine JL_nil ?_
    refine JE_seq ?_
    refine JC_block ?_
    -- stop: loop
    refine JC_nil 63 2 ?_
    refine JC_loopF (γ := Nat × Value) (fun q => q.1 ≤ all.length) (fun q => [(9, I q.1), (8, q.2)]) (fun q => [ow q.2 63 2 (subN all k q.1).length ((subN all k q.1).flatMap encLk)]) (fun q => all.length - q.1) (0, .slice none 0 0) (Nat.zero_le _) (stsub_consI rfl rfl (stsub_cons rfl stsub_nil)) (show HTake _ [ow (.slice none 0 0) 63 2 0 []] _ from ht_cons ht_nil) ?_
    rintro ⟨i, u⟩ hi K2 hK2
    dsimp only [List.cons_append, List.nil_append] at hi ⊢
    have hlen := subN_len all k i
    refine JC_seq ?_
    refine JC_seq ?_
    refine JC_region ?_
    refine JL_pd rfl (det_move rfl) ?_
    refine JL_pd rfl (det_move rfl) ?_
    refine JL_pd rfl (det_len rfl Try.runUnderlying24) ?_
    refine JL_pd rfl (det_lss rfl rfl) ?_
    refine JL_nil ?_
    refine JE_seq ?_
    -- stop: cond
    refine JC_if rfl (fun h2 => ?_) (fun h2 => ?_)
    · have hi2 : i < all.length := by omega
      have hbit := bit_shr k i (by omega)
      have hsn : subN all k (i + 1) = subN all k i ++ (if k.testBit i = true then (all[i]?).toList else []) := rfl
      rw [List.getElem?_eq_getElem hi2] at hsn
      refine JC_skip ?_
      refine JE_seq ?_
      refine JC_seq ?_
      refine JC_block ?_
      refine JC_seq ?_
      refine JC_region ?_
      refine JL_pd rfl (det_move rfl) ?_
      refine JL_pd rfl (det_move rfl) ?_
      refine JL_pd rfl (det_convI rfl Try.runUnderlying3 Try.runUnderlying87 (u64_wrap ⟨by omega, by omega⟩)) ?_
      refine JL_pd rfl (det_shr rfl rfl (by omega)) ?_
      refine JL_pd rfl (det_rem rfl rfl (by omega)) ?_
      refine JL_pd rfl (det_eql rfl rfl) ?_
      refine JL_nil ?_
      refine JE_seq ?_
      -- stop: cond
      refine JC_if rfl (fun h3 => ?_) (fun h3 => ?_)
      · rw [if_pos (hbit.1 h3)] at hsn
        refine JC_region ?_
        refine JL_pd rfl (det_move rfl) ?_
        refine JL_pd rfl (det_move rfl) ?_
        refine JL_pd rfl (det_move rfl) ?_
        refine JL_dt rfl (det_indexAddr rfl rfl (by first | rfl | omega) (by first | assumption | omega | decide) Try.runUnderlying24 Try.sizeOf63) ?_
        refine JL_dt rfl (det_loadEA rfl (by first | assumption | omega | decide) Try.isAgg63 Try.sizeOf63 rfl rfl rfl) ?_
        refine JL_step rfl rfl rfl (jo_buildSlice rfl (bsl_24_1_0 _ _)) fun b37 => ?_
        refine JL_step rfl rfl rfl (jo_append el_24 rfl rfl rfl rfl (by omega)) fun b38 => ?_
        refine JL_pd rfl (det_assign rfl) ?_
        refine JL_nil ?_
        refine JE_block ?_
        refine JE_seq ?_
        refine JC_region ?_
        refine JL_pd rfl (det_move rfl) ?_
        refine JL_pd rfl (det_add rfl rfl ⟨by omega, by omega⟩) ?_
        refine JL_pd rfl (det_assign rfl) ?_
        refine JL_nil ?_
        -- stop: end
        refine JE_roundF hK2 (i + 1, .slice (some ⟨b38.1, 0, none⟩) ((subN all k i).length + 1) b38.2) (by simp only; omega) (by simp only; omega) (stsub_consI rfl (by simp only; omega) (stsub_cons rfl stsub_nil)) (ht_ow (by rw [hsn]; simp) (by rw [hsn, List.flatMap_append]; rfl) ht_nil)
      · rw [if_neg fun h => h3 (hbit.2 h), List.append_nil] at hsn
        refine JC_skip ?_
        refine JE_block ?_
        refine JE_seq ?_
        refine JC_region ?_
        refine JL_pd rfl (det_move rfl) ?_
        refine JL_pd rfl (det_add rfl rfl ⟨by omega, by omega⟩) ?_
        refine JL_pd rfl (det_assign rfl) ?_
        refine JL_nil ?_
        -- stop: end
        refine JE_roundF hK2 (i + 1, u) (by simp only; omega) (by simp only; omega) (stsub_consI rfl (by simp only; omega) (stsub_cons rfl stsub_nil)) (ht_ow (by rw [hsn]) (by rw [hsn]) ht_nil)
    · obtain rfl : i = all.length := by omega
      have hl1 : (subN all k all.length).length ≤ 10 := Nat.le_trans hlen hc
      have hbl : best.length ≤ 10 := Nat.le_trans hF.sub.length_le hc
      have hkeep := hF.keep
      have htake := hF.take
      generalize subN all k all.length = sub at hlen hl1 hkeep htake
      have hsx := Serve_x m a u sub V (by omega)
      generalize serveB m sub = sv at hkeep htake hsx
      refine JC_formS v ?_
      rintro va vc rfl
      refine JC_formS u ?_
      rintro ua uc rfl
      refine JC_exit ?_
      refine JE_seq_exit ?_
      refine JE_then_exit ?_
      refine JE_block_here ?_
      refine JE_seq ?_
      refine JC_seq ?_
      refine JC_region ?_
      refine JL_pd rfl (det_move rfl) ?_
      refine JL_pd rfl (det_not rfl) ?_
      refine JL_pd rfl (det_move rfl) ?_
      -- stop: guard 2
      cases found with
      | false =>
        refine JL_is (d0 := 41) true rfl (by rfl) (fun g1 => ?_)
        refine JL_skip rfl rfl g1 rfl ?_
        refine JL_skip rfl rfl g1 rfl ?_
        refine JL_skip rfl rfl g1 rfl ?_
        refine JL_skip rfl rfl g1 rfl ?_
        refine JL_skip rfl rfl g1 rfl ?_
        refine JL_pd rfl (det_pick_t rfl g1 rfl) ?_
        refine JL_pd rfl (det_move rfl) ?_
        -- stop: guard 9
        refine JL_is (d0 := 48) true rfl (by rfl) (fun g2 => ?_)
        refine JL_guard rfl rfl g2 ?_
        refine JL_dt rfl (det_loadKA rfl Try.isAgg26 Try.sizeOf26 rfl rfl) ?_
        refine JL_guard rfl rfl g2 ?_
        refine JL_pd rfl (det_move rfl) ?_
        refine JL_guard rfl rfl g2 ?_
        -- stop: op 12 t51 := (call (Call (value f42) (t49 t50) (26 24)))   <10 11 9 9>   275
        refine JL_step rfl rfl rfl (jo_callx rfl rfl Try.call42 rfl (hsx) (pick_perm)) fun _ => ?_
        refine JL_pd rfl (det_pick_t rfl g2 rfl) ?_
        refine JL_nil ?_
        refine JE_seq ?_
        -- stop: cond
        refine JC_cond rfl (fun h4 => ?_) (fun h4 => ?_)
        · refine JC_region ?_
          refine JL_pd rfl (det_move rfl) ?_
          refine JL_pd rfl (det_assign rfl) ?_
          refine JL_pd rfl (det_assign rfl) ?_
          refine JL_nil ?_
          refine JE_block ?_
          refine JE_seq ?_
          refine JC_region ?_
          refine JL_pd rfl (det_move rfl) ?_
          refine JL_pd rfl (det_add rfl rfl ⟨by omega, by omega⟩) ?_
          refine JL_pd rfl (det_assign rfl) ?_
          refine JL_nil ?_
          -- stop: end
          refine JE_roundF hK (k + 1, .slice ua sub.length uc, sub, true) ⟨by simp only; omega, htake h4 (.inl rfl)⟩ (by simp only; omega) (stsub_consI rfl (by simp only; omega) (stsub_consB rfl rfl (stsub_cons rfl stsub_nil))) (ht_cons ht_nil)
        · refine JC_skip ?_
          refine JE_block ?_
          refine JE_seq ?_
          refine JC_region ?_
          refine JL_pd rfl (det_move rfl) ?_
          refine JL_pd rfl (det_add rfl rfl ⟨by omega, by omega⟩) ?_
          refine JL_pd rfl (det_assign rfl) ?_
          refine JL_nil ?_
          -- stop: end
          refine JE_roundF hK (k + 1, .slice va best.length vc, best, false) ⟨by simp only; omega, hkeep (.inl h4)⟩ (by simp only; omega) (stsub_consI rfl (by simp only; omega) (stsub_consB rfl rfl (stsub_cons rfl stsub_nil))) (ht_cons ht_nil)
      | true =>
        refine JL_is (d0 := 41) false rfl (by rfl) (fun g1 => ?_)
        refine JL_guard rfl rfl g1 ?_
        refine JL_pd rfl (det_move rfl) ?_
        refine JL_guard rfl rfl g1 ?_
        refine JL_pd rfl (det_len rfl Try.runUnderlying24) ?_
        refine JL_guard rfl rfl g1 ?_
        refine JL_pd rfl (det_move rfl) ?_
        refine JL_guard rfl rfl g1 ?_
        refine JL_pd rfl (det_len rfl Try.runUnderlying24) ?_
        refine JL_guard rfl rfl g1 ?_
        refine JL_pd rfl (det_lss rfl rfl) ?_
        refine JL_pd rfl (det_pick_f rfl g1 rfl) ?_
        refine JL_pd rfl (det_move rfl) ?_
        -- stop: guard 9
        refine JL_split (d0 := 48) rfl (fun g2 => ?_) (fun g2 => ?_)
        · have g2' : sub.length < best.length := by have := of_decide_eq_true g2; omega
          refine JL_guard rfl rfl g2 ?_
          refine JL_dt rfl (det_loadKA rfl Try.isAgg26 Try.sizeOf26 rfl rfl) ?_
          refine JL_guard rfl rfl g2 ?_
          refine JL_pd rfl (det_move rfl) ?_
          refine JL_guard rfl rfl g2 ?_
          -- stop: op 12 t51 := (call (Call (value f42) (t49 t50) (26 24)))   <10 11 9 9>   275
          refine JL_step rfl rfl rfl (jo_callx rfl rfl Try.call42 rfl (hsx) (pick_perm)) fun _ => ?_
          refine JL_pd rfl (det_pick_t rfl g2 rfl) ?_
          refine JL_nil ?_
          refine JE_seq ?_
          -- stop: cond
          refine JC_cond rfl (fun h4 => ?_) (fun h4 => ?_)
          · refine JC_region ?_
            refine JL_pd rfl (det_move rfl) ?_
            refine JL_pd rfl (det_assign rfl) ?_
            refine JL_pd rfl (det_assign rfl) ?_
            refine JL_nil ?_
            refine JE_block ?_
            refine JE_seq ?_
            refine JC_region ?_
            refine JL_pd rfl (det_move rfl) ?_
            refine JL_pd rfl (det_add rfl rfl ⟨by omega, by omega⟩) ?_
            refine JL_pd rfl (det_assign rfl) ?_
            refine JL_nil ?_
            -- stop: end
            refine JE_roundF hK (k + 1, .slice ua sub.length uc, sub, true) ⟨by simp only; omega, htake h4 (.inr g2')⟩ (by simp only; omega) (stsub_consI rfl (by simp only; omega) (stsub_consB rfl rfl (stsub_cons rfl stsub_nil))) (ht_cons ht_nil)
          · refine JC_skip ?_
            refine JE_block ?_
            refine JE_seq ?_
            refine JC_region ?_
            refine JL_pd rfl (det_move rfl) ?_
            refine JL_pd rfl (det_add rfl rfl ⟨by omega, by omega⟩) ?_
            refine JL_pd rfl (det_assign rfl) ?_
            refine JL_nil ?_
            -- stop: end
            refine JE_roundF hK (k + 1, .slice va best.length vc, best, true) ⟨by simp only; omega, hkeep (.inl h4)⟩ (by simp only; omega) (stsub_consI rfl (by simp only; omega) (stsub_consB rfl rfl (stsub_cons rfl stsub_nil))) (ht_cons ht_nil)
        · have g2' : best.length ≤ sub.length := by have := of_decide_eq_false g2; omega
          refine JL_skip rfl rfl g2 rfl ?_
          refine JL_skip rfl rfl g2 rfl ?_
          refine JL_skip rfl rfl g2 rfl ?_
          refine JL_pd rfl (det_pick_f rfl g2 rfl) ?_
          refine JL_nil ?_
          refine JE_seq ?_
          -- stop: cond
          refine JC_cond rfl (fun h4 => ?_) (fun h4 => ?_)
          · cases h4
          · refine JC_skip ?_
            refine JE_block ?_
            refine JE_seq ?_
            refine JC_region ?_
            refine JL_pd rfl (det_move rfl) ?_
            refine JL_pd rfl (det_add rfl rfl ⟨by omega, by omega⟩) ?_
            refine JL_pd rfl (det_assign rfl) ?_
            refine JL_nil ?_
            -- stop: end
            refine JE_roundF hK (k + 1, .slice va best.length vc, best, true) ⟨by simp only; omega, hkeep (.inr ⟨rfl, g2'⟩)⟩ (by simp only; omega) (stsub_consI rfl (by simp only; omega) (stsub_consB rfl rfl (stsub_cons rfl stsub_nil))) (ht_cons ht_nil)
  · obtain rfl : k = 2 ^ all.length := by omega
    obtain ⟨e1, e2⟩ := hdone _ _ hF
    rw [← e1, ← e2]
    refine JC_slice (enc := encLk) (v := v) best noFp rfl rfl ?_
    rintro av cv rfl
    refine JC_exit ?_
    refine JE_seq_exit ?_
    refine JE_then_exit ?_
    refine JE_block_here ?_
    refine JE_seq ?_
    refine JC_seq ?_
    refine JC_region ?_
    refine JL_pd rfl (det_move rfl) ?_
    refine JL_pd rfl (det_move rfl) ?_
    refine JL_pd rfl (det_assign rfl) ?_
    refine JL_pd rfl (det_assign rfl) ?_
    refine JL_nil ?_
    refine JE_seq ?_
    refine JC_ret ?_
    -- stop: out
    refine JE_out (.inl rfl) (av, cv) (results2 Try.results33 (res_tmp rfl) (res_tmp rfl)) rfl (List.Perm.refl _) (fun w h => h.1)
end Go.Proofs.Ytgbfjcgjcnndpaa

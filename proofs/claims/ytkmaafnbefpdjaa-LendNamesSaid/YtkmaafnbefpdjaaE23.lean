/- Walks of lend: Marks. -/
import Derived.Test.YtkmaafnbefpdjaaE22
set_option linter.unusedSimpArgs false
set_option linter.unusedVariables false
namespace Go.Proofs.Ytkmaafnbefpdjaa
open Go.RowKit Go.Shelf

theorem markL_fuel (k : Int) (l : List Gr) : ∀ (n n' : Nat) (m : Int), -1 ≤ m → m ≤ 30 → 30 - m ≤ (n : Int) → 30 - m ≤ (n' : Int) → markL k l n m = markL k l n' m
  | 0, 0, m, _, _, _, _ => rfl
  | 0, n' + 1, m, h1, h2, h3, _ => by
    have := choV_next k l h1 h2
    unfold markL
    rw [if_neg (by omega)]
  | n + 1, 0, m, h1, h2, _, h4 => by
    have := choV_next k l h1 h2
    unfold markL
    rw [if_neg (by omega)]
  | n + 1, n' + 1, m, h1, h2, h3, h4 => by
    have := choV_next k l h1 h2
    unfold markL
    by_cases h : (choV k l m).2 < 31
    · rw [if_pos h, if_pos h, markL_fuel k l n n' (choV k l m).2 (by omega) (by omega) (by omega) (by omega)]
    · rw [if_neg h, if_neg h]
/-- The marks from one on. -/
def tailM (k : Int) (l : List Gr) (at_ : Int) : List Int := if at_ < 31 then at_ :: markL k l 31 at_ else []
theorem markL_tail (k : Int) (l : List Gr) {m : Int} (h1 : -1 ≤ m) (h2 : m ≤ 30) : markL k l 31 m = tailM k l (choV k l m).2 := by
  have := choV_next k l h1 h2
  unfold tailM
  conv => lhs; unfold markL
  by_cases h : (choV k l m).2 < 31
  · rw [if_pos h, if_pos h, markL_fuel k l 30 31 (choV k l m).2 (by omega) (by omega) (by omega) (by omega)]
  · rw [if_neg h, if_neg h]
theorem Marks_je (x : Hx) (ga : Option Addr) (gc : Nat) (xs : List Gx) (h : fault x.h (gs xs) ≠ 0) : Cv Try.prog 43 [.agg #[I x.h.lanes, .slice x.a x.h.shoes.length x.c], .slice ga xs.length gc] (KAnd (KHx x) (KGs ga gc xs)) (.tuple #[.slice none 0 0, I (fault x.h (gs xs))]) := by
  refine Cx_of Try.func43 rfl Try.ntmps43 rfl fun w0 M0 => ?_
  refine JC_seq ?_
  refine JC_region ?_
  refine JL_step rfl rfl rfl (jo_box rfl rfl) fun b2 => ?_
  refine JL_pd rfl (det_assign rfl) ?_
  refine JL_pd rfl (det_assign rfl) ?_
  refine JL_nil ?_
  refine JE_seq ?_
  refine JC_seq ?_
  refine JC_region ?_
  refine JL_dt rfl (det_loadKA rfl Try.isAgg30 Try.sizeOf30 rfl rfl) ?_
  refine JL_pd rfl (det_move rfl) ?_
  refine JL_step rfl rfl rfl (jo_callv rfl rfl Try.call59 rfl (work_je x ga gc xs h)) fun _ => ?_
  refine JL_pd rfl (det_move rfl) ?_
  refine JL_pd rfl (det_extract rfl rfl) ?_
  refine JL_pd rfl (det_extract rfl rfl) ?_
  refine JL_step rfl rfl rfl (jo_alloc0 Try.zeroValue84 rfl) fun b6 => ?_
  refine JL_step0 rfl rfl (jo_store rfl rfl rfl (by first | (simp only [splice_norm]; done) | (simp only [splice_norm]; rfl) | rfl) Try.sizeOf84 rfl rfl) fun _ => ?_
  refine JL_pd rfl (det_assign rfl) ?_
  refine JL_nil ?_
  refine JE_seq ?_
  refine JC_seq ?_
  refine JC_seq ?_
  refine JC_region ?_
  refine JL_pd rfl (det_move rfl) ?_
  refine JL_pd rfl (det_neq rfl rfl) ?_
  refine JL_nil ?_
  refine JE_seq ?_
  -- stop: cond
  refine JC_ifn rfl (fun h1 => ?_) (fun h1 => ?_)
  · refine JC_seq ?_
    refine JC_region ?_
    refine JL_pd rfl (det_move rfl) ?_
    refine JL_pd rfl (det_assign rfl) ?_
    refine JL_pd rfl (det_assign rfl) ?_
    refine JL_nil ?_
    refine JE_seq ?_
    refine JC_ret ?_
    refine JE_seq_ret ?_
    -- stop: out
    refine JE_out (.inl rfl) () (results2 Try.results43 (res_tmp rfl) (res_tmp rfl)) rfl (List.Perm.refl _) (fun _ _ => trivial)
  · exact absurd h1 h
set_option maxRecDepth 100000 in
set_option maxHeartbeats 1000000 in
theorem Marks_jo (x : Hx) (ga : Option Addr) (gc : Nat) (xs : List Gx) (h : fault x.h (gs xs) = 0) : Cr Try.prog 43 [.agg #[I x.h.lanes, .slice x.a x.h.shoes.length x.c], .slice ga xs.length gc] (KAnd (KHx x) (KGs ga gc xs)) (fun q : Option Addr × Nat => .tuple #[.slice q.1 (marksV x.h.lanes (gs xs)).length q.2, I 0]) (fun q => KSl q.1 (marksV x.h.lanes (gs xs)).length q.2 encI (marksV x.h.lanes (gs xs))) := by
  have V := vld_of h
  have hl : 0 ≤ x.h.lanes ∧ x.h.lanes ≤ 5 := ⟨V.hs.l0, V.hs.l1⟩
  have hn : xs.length ≤ 8 := by have := V.n; simpa [gs] using this
  refine Cx_of Try.func43 rfl Try.ntmps43 rfl fun w0 M0 => ?_
  refine JC_seq ?_
  refine JC_region ?_
  refine JL_step rfl rfl rfl (jo_box rfl rfl) fun b2 => ?_
  refine JL_pd rfl (det_assign rfl) ?_
  refine JL_pd rfl (det_assign rfl) ?_
  refine JL_nil ?_
  refine JE_seq ?_
  refine JC_seq ?_
  refine JC_region ?_
  refine JL_dt rfl (det_loadKA rfl Try.isAgg30 Try.sizeOf30 rfl rfl) ?_
  refine JL_pd rfl (det_move rfl) ?_
  refine JL_step rfl rfl rfl (jo_call rfl rfl Try.call59 rfl (work_jo x ga gc xs h)) fun x15 => ?_
  refine JL_pd rfl (det_move rfl) ?_
  refine JL_pd rfl (det_extract rfl rfl) ?_
  refine JL_pd rfl (det_extract rfl rfl) ?_
  refine JL_step rfl rfl rfl (jo_alloc0 Try.zeroValue84 rfl) fun b6 => ?_
  refine JL_step0 rfl rfl (jo_store rfl rfl rfl (by first | (simp only [splice_norm]; done) | (simp only [splice_norm]; rfl) | rfl) Try.sizeOf84 rfl rfl) fun _ => ?_
  refine JL_pd rfl (det_assign rfl) ?_
  refine JL_nil ?_
  refine JE_seq ?_
  refine JC_seq ?_
  refine JC_seq ?_
  refine JC_region ?_
  refine JL_pd rfl (det_move rfl) ?_
  refine JL_pd rfl (det_neq rfl rfl) ?_
  refine JL_nil ?_
  refine JE_seq ?_
  -- stop: cond
  refine JC_ifn rfl (fun h1 => ?_) (fun h1 => ?_)
  · exact absurd rfl h1
  refine JC_skip ?_
  refine JE_seq ?_
  refine JC_seq ?_
  refine JC_region ?_
  refine JL_step rfl rfl rfl (jo_makeMap ekI evCh) fun b21 => ?_
  refine JL_step rfl rfl rfl (jo_alloc0 Try.zeroValue102 rfl) fun b8 => ?_
  refine JL_step0 rfl rfl (jo_store rfl rfl rfl (by first | (simp only [splice_norm]; done) | (simp only [splice_norm]; rfl) | rfl) Try.sizeOf102 rfl rfl) fun _ => ?_
  refine JL_nil ?_
  refine JE_seq ?_
  refine JC_seq ?_
  refine JC_region ?_
  refine JL_step rfl rfl rfl (jo_alloc0 Try.zeroValue103 rfl) fun b9 => ?_
  refine JL_nil ?_
  refine JE_seq ?_
  refine JC_seq ?_
  refine JC_region ?_
  refine JL_pd rfl (det_makeFuncE rfl rfl) ?_
  refine JL_step0 rfl rfl (jo_store rfl rfl rfl (by first | (simp only [splice_norm]; done) | (simp only [splice_norm]; rfl) | rfl) Try.sizeOf103 rfl rfl) fun _ => ?_
  refine JL_nil ?_
  refine JE_seq ?_
  refine JC_seq ?_
  refine JC_region ?_
  refine JL_pd rfl (det_assign rfl) ?_
  refine JL_nil ?_
  refine JE_seq ?_
  refine JC_seq ?_
  refine JC_seq ?_
  refine JC_region ?_
  refine JL_keep b9 noFp ?_
  refine JL_keep b8 noFp ?_
  refine JL_keep b6 noFp ?_
  refine JL_keep b2 noFp ?_
  refine JL_dt rfl (det_loadK rfl Try.isAgg103 rfl) ?_
  -- stop: op  1 t24 := (call (Call (value t23) ((neg Int instNegInt 1)) (3)))   <0>   265
  have hfrom := from_j x ga gc xs b8 b21 b6 x15.1 x15.2 b2 b9 hl hn
  refine JL_step rfl rfl rfl (jo_callx rfl rfl Try.call79 rfl (hfrom 31 (-1) (fun _ => none) (by decide) (by decide) rfl (fun _ _ h => by cases h)) (pick_perm)) fun q => ?_
  refine JL_pd rfl (det_field rfl (fld_105_1 _ _)) ?_
  refine JL_pd rfl (det_assign rfl) ?_
  refine JL_nil ?_
  refine JE_seq ?_
  refine JC_block ?_
  -- stop: loop
  refine JC_nil 3 1 ?_
  have hnx := choV_next x.h.lanes (gs xs) (m := -1) (by decide) (by decide)
  refine JC_loopF (γ := Nat × Value × List Int × Int × { kn' // GoodKn x.h.lanes (gs xs) kn' }) (fun q => q.1 ≤ 31 ∧ q.2.2.1.length ≤ q.2.2.2.1.toNat ∧ 0 ≤ q.2.2.2.1 ∧ q.2.2.2.1 ≤ 31 ∧ (31 - q.2.2.2.1).toNat = q.1 ∧ q.2.2.1 ++ tailM x.h.lanes (gs xs) q.2.2.2.1 = marksV x.h.lanes (gs xs)) (fun q => [(11, I q.2.2.2.1), (10, q.2.1)]) (fun q => [ow q.2.1 3 1 q.2.2.1.length (q.2.2.1.flatMap encI), mp b21 ekI evCh q.2.2.2.2.1]) (fun q => q.1) ((31 - (choV x.h.lanes (gs xs) (-1)).2).toNat, .slice none 0 0, [], (choV x.h.lanes (gs xs) (-1)).2, q) ⟨by simp only; omega, Nat.zero_le _, by simp only; omega, by simp only; omega, rfl, (markL_tail _ _ (by decide) (by decide)).symm⟩ (stsub_consI rfl rfl (stsub_cons rfl stsub_nil)) (ht_ow rfl rfl (ht_cons ht_nil)) ?_
  rintro ⟨n, v, ms, at_, kn⟩ ⟨hn1, hml, h01, h02, h03, hms⟩ K hK
  dsimp only [List.cons_append, List.nil_append] at hn1 hml h01 h02 h03 hms ⊢
  refine JC_seq ?_
  refine JC_seq ?_
  refine JC_region ?_
  refine JL_pd rfl (det_move rfl) ?_
  refine JL_pd rfl (det_lss rfl rfl) ?_
  refine JL_nil ?_
  refine JE_seq ?_
  -- stop: cond
  refine JC_if rfl (fun h2 => ?_) (fun h2 => ?_)
  · have hnx := choV_next x.h.lanes (gs xs) (m := at_) (by omega) (by omega)
    have htl : tailM x.h.lanes (gs xs) at_ = at_ :: tailM x.h.lanes (gs xs) (choV x.h.lanes (gs xs) at_).2 := by
      rw [← markL_tail _ _ (by omega) (by omega), tailM, if_pos h2]
    refine JC_skip ?_
    refine JE_seq ?_
    refine JC_seq ?_
    refine JC_block ?_
    refine JC_region ?_
    refine JL_pd rfl (det_move rfl) ?_
    refine JL_pd rfl (det_move rfl) ?_
    refine JL_step rfl rfl rfl (jo_buildSlice rfl (bsl_22_1_0 _)) fun b34 => ?_
    refine JL_step rfl rfl rfl (jo_append el_22 rfl rfl rfl rfl (by omega)) fun b35 => ?_
    refine JL_pd rfl (det_assign rfl) ?_
    refine JL_nil ?_
    refine JE_block ?_
    refine JE_seq ?_
    refine JC_region ?_
    refine JL_dt rfl (det_loadK rfl Try.isAgg103 rfl) ?_
    refine JL_pd rfl (det_move rfl) ?_
    -- stop: op  2 t30 := (call (Call (value t28) (t29) (3)))   <0 1>   265
    refine JL_step rfl rfl rfl (jo_callx rfl rfl Try.call79 rfl (hfrom (30 - at_).toNat at_ kn.1 (by omega) (by omega) rfl kn.2) (pick_perm)) fun q2 => ?_
    refine JL_pd rfl (det_field rfl (fld_105_1 _ _)) ?_
    refine JL_pd rfl (det_assign rfl) ?_
    refine JL_nil ?_
    -- stop: end
    refine JE_roundF hK ((31 - (choV x.h.lanes (gs xs) at_).2).toNat, .slice (some ⟨b35.1, 0, none⟩) (ms.length + 1) b35.2, ms ++ [at_], (choV x.h.lanes (gs xs) at_).2, q2) ⟨by simp only; omega, by simp only [List.length_append, List.length_singleton]; omega, by simp only; omega, by simp only; omega, rfl, by simp only; rw [List.append_assoc, ← hms, htl]; rfl⟩ (by simp only; omega) (stsub_consI rfl rfl (stsub_cons rfl stsub_nil)) (ht_ow (by simp) (by simp [encI]) (ht_cons ht_nil))
  · have hmm : ms = marksV x.h.lanes (gs xs) := by rw [← hms, tailM, if_neg h2, List.append_nil]
    rw [← hmm]
    refine JC_slice (enc := encI) (v := v) ms noFp rfl rfl ?_
    rintro av cv rfl
    refine JC_exit ?_
    refine JE_seq_exit ?_
    refine JE_then_exit ?_
    refine JE_block_here ?_
    refine JE_seq ?_
    refine JC_seq ?_
    refine JC_region ?_
    refine JL_pd rfl (det_move rfl) ?_
    refine JL_pd rfl (det_assign rfl) ?_
    refine JL_pd rfl (det_assign rfl) ?_
    refine JL_nil ?_
    refine JE_seq ?_
    refine JC_ret ?_
    -- stop: out
    refine JE_out (.inl rfl) (av, cv) (results2 Try.results43 (res_tmp rfl) (res_tmp rfl)) rfl (List.Perm.refl _) (fun w h => h.1)
theorem Marks_ce (x : Hx) (q : QH) (xs : List Gx) (g : QG xs) (h : fault x.h (gs xs) ≠ 0) : Cv Try.prog 43 [.agg #[I x.h.lanes, .slice q.1 x.h.shoes.length q.2], .slice g.1 g.2.2.1.length g.2.1] (KAnd (KHx ⟨x.h, q.1, q.2⟩) (KGs g.1 g.2.1 g.2.2.1)) (.tuple #[.slice none 0 0, I (fault x.h (gs xs))]) := by
  have h := Marks_je ⟨x.h, q.1, q.2⟩ g.1 g.2.1 g.2.2.1 (by rw [g.2.2.2]; exact h)
  rwa [g.2.2.2] at h
theorem Marks_c (x : Hx) (q : QH) (xs : List Gx) (g : QG xs) (h : fault x.h (gs xs) = 0) : Cr Try.prog 43 [.agg #[I x.h.lanes, .slice q.1 x.h.shoes.length q.2], .slice g.1 g.2.2.1.length g.2.1] (KAnd (KHx ⟨x.h, q.1, q.2⟩) (KGs g.1 g.2.1 g.2.2.1)) (fun q : QH => .tuple #[.slice q.1 (marksV x.h.lanes (gs xs)).length q.2, I 0]) (fun q => KSl q.1 (marksV x.h.lanes (gs xs)).length q.2 encI (marksV x.h.lanes (gs xs))) := by
  have h := Marks_jo ⟨x.h, q.1, q.2⟩ g.1 g.2.1 g.2.2.1 (by rw [g.2.2.2]; exact h)
  rwa [g.2.2.2] at h
end Go.Proofs.Ytkmaafnbefpdjaa

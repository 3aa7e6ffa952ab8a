/- The walk of PathAims. -/
import Derived.Test.YtcfhbnfincpehaaB8
set_option linter.unusedSimpArgs false
set_option linter.unusedVariables false
namespace Go.Proofs.Ytcfhbnfincpehaa
open Go.RowKit Go.Shelf

/-- The best one of some, by their rooms: the first one of the greatest room. -/
theorem best_go (A : List St) (hA : ∀ s ∈ A, 1 ≤ roomN A s) : ∀ (post : List St) (b : St), (∀ s ∈ post, s ∈ A) → b ∈ A →
    post.foldl (fun b s => if (roomN A b : Int) < roomN A s then s else b) b = (post.foldl (bestS A) (b, (roomN A b : Int) - 1)).1 ∧ (roomN A (post.foldl (fun b s => if (roomN A b : Int) < roomN A s then s else b) b) : Int) - 1 = (post.foldl (bestS A) (b, (roomN A b : Int) - 1)).2
  | [], b, _, _ => ⟨rfl, rfl⟩
  | s :: post, b, hp, hb => by
    simp only [List.foldl_cons]
    by_cases h : (roomN A b : Int) < roomN A s
    · have e : bestS A (b, (roomN A b : Int) - 1) s = (s, (roomN A s : Int) - 1) := by
        unfold bestS; rw [if_pos (by simp only; omega)]
      rw [if_pos h, e]
      exact best_go A hA post s (fun x hx => hp x (by simp [hx])) (hp s (by simp))
    · have e : bestS A (b, (roomN A b : Int) - 1) s = (b, (roomN A b : Int) - 1) := by
        unfold bestS; rw [if_neg (by simp only; omega)]
      rw [if_neg h, e]
      exact best_go A hA post b (fun x hx => hp x (by simp [hx])) hb
/-- The first one of the greatest room, among the first so many. -/
def bestG (A : List St) : St := match A with | [] => ⟨0, 0⟩ | a :: r => r.foldl (fun b s => if (roomN A b : Int) < roomN A s then s else b) a
theorem bestG_is {l : La} {p : Pk} (hne : aimsL l p ≠ []) : (bestF (aimsL l p)).1 = bestG (aimsL l p) ∧ (bestF (aimsL l p)).2 = (roomN (aimsL l p) (bestG (aimsL l p)) : Int) - 1 ∧ 0 ≤ (bestF (aimsL l p)).2 := by
  obtain ⟨A, hA⟩ : ∃ A, A = aimsL l p := ⟨_, rfl⟩
  rw [← hA] at hne ⊢
  cases hc : A with
  | nil => exact absurd hc hne
  | cons a r =>
    have ha : a ∈ A := by rw [hc]; simp
    have h1 := room_pos ha
    have e : bestF A = r.foldl (bestS A) (a, (roomN A a : Int) - 1) := by
      unfold bestF
      conv => lhs; rw [show A.foldl (bestS A) (⟨0, 0⟩, -1) = (a :: r).foldl (bestS A) (⟨0, 0⟩, -1) by rw [← hc]]
      rw [List.foldl_cons]
      congr 1
      unfold bestS
      rw [if_pos (by simp only; omega)]
    obtain ⟨g1, g2⟩ := best_go A (fun s hs => room_pos hs) r a (fun s hs => by rw [hc]; simp [hs]) ha
    have eg : bestG A = r.foldl (fun b s => if (roomN A b : Int) < roomN A s then s else b) a := by rw [hc]; rfl
    rw [← hc]
    refine ⟨by rw [e, eg, g1], by rw [e, eg, g2], ?_⟩
    rw [e, ← g2]
    have hm : r.foldl (fun b s => if (roomN A b : Int) < roomN A s then s else b) a ∈ A := by
      have key : ∀ (post : List St) (b : St), (∀ s ∈ post, s ∈ A) → b ∈ A → post.foldl (fun b s => if (roomN A b : Int) < roomN A s then s else b) b ∈ A := by
        intro post
        induction post with
        | nil => intro b _ hb; exact hb
        | cons s post ih =>
          intro b hp hb
          rw [List.foldl_cons]
          refine ih _ (fun x hx => hp x (by simp [hx])) ?_
          split
          · exact hp s (by simp)
          · exact hb
      exact key r a (fun s hs => by rw [hc]; simp [hs]) ha
    have := room_pos hm
    omega
/-- The best one of the first so many, and one more. -/
def bestK (A : List St) (a : St) (r : List St) (j : Nat) : St := (r.take j).foldl (fun b s => if (roomN A b : Int) < roomN A s then s else b) a
theorem bestK_snoc (A : List St) (a : St) (r : List St) (j : Nat) (h : j < r.length) : bestK A a r (j + 1) = if (roomN A (bestK A a r j) : Int) < roomN A r[j] then r[j] else bestK A a r j := by
  unfold bestK
  rw [take_snoc h, List.foldl_append]; rfl
theorem bestK_mem (A : List St) (a : St) (r : List St) : ∀ j, j ≤ r.length → bestK A a r j ∈ a :: r
  | 0, _ => by simp [bestK]
  | j + 1, h => by
    rw [bestK_snoc A a r j (by omega)]
    split
    · exact List.mem_cons_of_mem _ (List.getElem_mem _)
    · exact bestK_mem A a r j (by omega)
theorem bestF_nil : bestF [] = (⟨0, 0⟩, -1) := rfl
set_option maxRecDepth 100000 in
set_option maxHeartbeats 1000000 in
theorem PathAims_j (l : La) (p : Pk) (ha pa : Option Addr) (hc pc : Nat) : Cv Try.prog 5 [.agg #[I l.boards, I l.rows, .slice ha l.hooks.length hc, .slice pa l.patches.length pc], .agg #[I p.boards.lo, I p.boards.hi, I p.dirs.lo, I p.dirs.hi]] (KLane l ha hc pa pc) (.bool true) := by
  refine Cx_of Try.func5 rfl Try.ntmps5 rfl fun w0 M0 => ?_
  refine JC_seq ?_
  refine JC_region ?_
  refine JL_step rfl rfl rfl (jo_box rfl rfl) fun b2 => ?_
  refine JL_step rfl rfl rfl (jo_box rfl rfl) fun b3 => ?_
  refine JL_pd rfl (det_assign rfl) ?_
  refine JL_nil ?_
  refine JE_seq ?_
  refine JC_seq ?_
  refine JC_seq ?_
  refine JC_region ?_
  refine JL_dt rfl (det_loadKA rfl Try.isAgg25 Try.sizeOf25 rfl rfl) ?_
  refine JL_step rfl rfl rfl (jo_callv rfl rfl Try.call16 rfl (lFew_j l ha pa hc pc)) fun _ => ?_
  refine JL_pd rfl (det_not rfl) ?_
  refine JL_pd rfl (det_move rfl) ?_
  -- stop: guard 3
  refine JL_join1 14 31 (.bool (!(fewB l && !(decide (fault l = 0) && (decide (20 < l.boards) || decide (5 < l.rows)))))) (fun hj => ?_) ?_
  · refine JL_split (d0 := 17) rfl (fun q1 => ?_) (fun q1 => ?_)
    · refine JL_skip rfl rfl q1 rfl ?_
      refine JL_skip rfl rfl q1 rfl ?_
      refine JL_skip rfl rfl q1 rfl ?_
      refine JL_skip rfl rfl q1 rfl ?_
      refine JL_skipU rfl rfl rfl ?_
      refine JL_skipU rfl rfl rfl ?_
      refine JL_skipU rfl rfl rfl ?_
      refine JL_skipU rfl rfl rfl ?_
      refine JL_skipU rfl rfl rfl ?_
      refine JL_skipU rfl rfl rfl ?_
      refine JL_skipU rfl rfl rfl ?_
      refine JL_skipU rfl rfl rfl ?_
      refine JL_skip rfl rfl q1 rfl ?_
      refine JL_pd rfl (det_pick_t rfl q1 rfl) ?_
      exact hj (by kernel_rfl) (stsub_consB rfl (by clear hj; first | rfl | (simp only [q1, Bool.and_true, Bool.true_and, Bool.false_and, Bool.and_false, Bool.or_true, Bool.true_or, Bool.or_false, Bool.false_or, Bool.not_true, Bool.not_false]; done) | (simp [q1]; done) | (simp at q1; done) | (simp [q1] <;> omega) | (exfalso; simp at q1; omega)) stsub_nil)
    · refine JL_guard rfl rfl q1 ?_
      refine JL_dt rfl (det_loadKA rfl Try.isAgg25 Try.sizeOf25 rfl rfl) ?_
      refine JL_guard rfl rfl q1 ?_
      refine JL_step rfl rfl rfl (jo_callv rfl rfl Try.call28 rfl (rFault_j l ha pa hc pc)) fun _ => ?_
      refine JL_guard rfl rfl q1 ?_
      refine JL_pd rfl (det_eql rfl rfl) ?_
      refine JL_guard rfl rfl q1 ?_
      refine JL_pd rfl (det_move rfl) ?_
      refine JL_split (d0 := 21) rfl (fun q2 => ?_) (fun q2 => ?_)
      · refine JL_guard rfl rfl q2 ?_
        refine JL_pd rfl (det_fieldAddr rfl fo_25_0) ?_
        refine JL_guard rfl rfl q2 ?_
        refine JL_dt rfl (det_loadK rfl Try.isAgg3 rfl) ?_
        refine JL_guard rfl rfl q2 ?_
        refine JL_pd rfl (det_gtr rfl rfl) ?_
        refine JL_guard rfl rfl q2 ?_
        refine JL_pd rfl (det_move rfl) ?_
        refine JL_split (d0 := 25) rfl (fun q3 => ?_) (fun q3 => ?_)
        · refine JL_skip rfl rfl q3 rfl ?_
          refine JL_skip rfl rfl q3 rfl ?_
          refine JL_skip rfl rfl q3 rfl ?_
          refine JL_guard rfl rfl q2 ?_
          refine JL_pd rfl (det_pick_t rfl q3 rfl) ?_
          refine JL_guard rfl rfl q1 ?_
          refine JL_pd rfl (det_pick_t rfl q2 rfl) ?_
          refine JL_pd rfl (det_pick_f rfl q1 rfl) ?_
          exact hj (by kernel_rfl) (stsub_consB rfl (by clear hj; first | rfl | (simp only [q1, q2, q3, Bool.and_true, Bool.true_and, Bool.false_and, Bool.and_false, Bool.or_true, Bool.true_or, Bool.or_false, Bool.false_or, Bool.not_true, Bool.not_false]; done) | (simp [q1, q2, q3]; done) | (simp at q1; done) | (simp at q2; done) | (simp at q3; done) | (simp [q1, q2, q3] <;> omega) | (exfalso; simp at q1 q2 q3; omega) | (simp [q2, q3] at q1; done) | (simp [q1, q3] at q2; done) | (simp [q1, q2] at q3; done)) stsub_nil)
        · refine JL_guard rfl rfl q3 ?_
          refine JL_pd rfl (det_fieldAddr rfl fo_25_1) ?_
          refine JL_guard rfl rfl q3 ?_
          refine JL_dt rfl (det_loadK rfl Try.isAgg3 rfl) ?_
          refine JL_guard rfl rfl q3 ?_
          refine JL_pd rfl (det_gtr rfl rfl) ?_
          refine JL_guard rfl rfl q2 ?_
          refine JL_pd rfl (det_pick_f rfl q3 rfl) ?_
          refine JL_guard rfl rfl q1 ?_
          refine JL_pd rfl (det_pick_t rfl q2 rfl) ?_
          refine JL_pd rfl (det_pick_f rfl q1 rfl) ?_
          exact hj (by kernel_rfl) (stsub_consB rfl (by clear hj; first | rfl | (simp only [q1, q2, q3, Bool.and_true, Bool.true_and, Bool.false_and, Bool.and_false, Bool.or_true, Bool.true_or, Bool.or_false, Bool.false_or, Bool.not_true, Bool.not_false]; done) | (simp [q1, q2, q3]; done) | (simp at q1; done) | (simp at q2; done) | (simp at q3; done) | (simp [q1, q2, q3] <;> omega) | (exfalso; simp at q1 q2 q3; omega) | (simp [q2, q3] at q1; done) | (simp [q1, q3] at q2; done) | (simp [q1, q2] at q3; done)) stsub_nil)
      · refine JL_skip rfl rfl q2 rfl ?_
        refine JL_skip rfl rfl q2 rfl ?_
        refine JL_skip rfl rfl q2 rfl ?_
        refine JL_skip rfl rfl q2 rfl ?_
        refine JL_skipU rfl rfl rfl ?_
        refine JL_skipU rfl rfl rfl ?_
        refine JL_skipU rfl rfl rfl ?_
        refine JL_skip rfl rfl q2 rfl ?_
        refine JL_guard rfl rfl q1 ?_
        refine JL_pd rfl (det_pick_f rfl q2 rfl) ?_
        refine JL_pd rfl (det_pick_f rfl q1 rfl) ?_
        exact hj (by kernel_rfl) (stsub_consB rfl (by clear hj; first | rfl | (simp only [q1, q2, Bool.and_true, Bool.true_and, Bool.false_and, Bool.and_false, Bool.or_true, Bool.true_or, Bool.or_false, Bool.false_or, Bool.not_true, Bool.not_false]; done) | (simp [q1, q2]; done) | (simp at q1; done) | (simp at q2; done) | (simp [q1, q2] <;> omega) | (exfalso; simp at q1 q2; omega) | (simp [q2] at q1; done) | (simp [q1] at q2; done)) stsub_nil)
  refine JL_nil ?_
  refine JE_seq ?_
  -- stop: cond
  refine JC_cond rfl (fun h1 => ?_) (fun h1 => ?_)
  · refine JC_seq ?_
    refine JC_region ?_
    refine JL_step rfl rfl rfl (jo_callv rfl rfl Try.call17 rfl (lawake_j)) fun _ => ?_
    refine JL_pd rfl (det_assign rfl) ?_
    refine JL_nil ?_
    refine JE_seq ?_
    refine JC_ret ?_
    refine JE_seq_ret ?_
    -- stop: out
    refine JE_out (.inl rfl) () (results1 Try.results5 (res_tmp rfl)) rfl (List.Perm.refl _) (fun _ _ => trivial)
  · have h1 : fewB l = true := by simp at h1; exact h1.1
    obtain ⟨hthin, hB⟩ := few_valid h1
    have hth : l.patches.length ≤ 12 ∧ l.hooks.length ≤ 6 := by simpa [thin] using hthin
    by_cases he : aimsErr l p = 0
    · have hf : fault l = 0 := by
        unfold aimsErr at he; split at he
        · contradiction
        · simp_all
      have hp : isPocket p = true := by
        cases h : isPocket p
        · simp [aimsErr, hf, h] at he
        · rfl
      have V := fault_valid hf
      have v2 := V.b2
      have hB := hB hf
      have hal := aims_len l p v2
      obtain ⟨A, hA⟩ : ∃ A, A = aimsL l p := ⟨_, rfl⟩
      have hrm : ∀ s ∈ A, (1 ≤ s.b ∧ s.b ≤ 40) := fun s hs => by have := aims_bd (hA ▸ hs) v2; omega
      cases hca : A with
      | nil =>
        have hnil : aimsL l p = [] := by rw [← hA, hca]
        have hbb := Best_jo l p
        simp only [hnil, bestF_nil] at hbb
        have hbb : ∀ (ha pa : Option Addr) (hc pc : Nat), Cv Try.prog 31 [.agg #[I l.boards, I l.rows, .slice ha l.hooks.length hc, .slice pa l.patches.length pc], .agg #[I p.boards.lo, I p.boards.hi, I p.dirs.lo, I p.dirs.hi]] (KLane l ha hc pa pc) (.tuple #[.agg #[I 0, I 0], I 0, I 9]) := fun ha pa hc pc => hbb ha pa hc pc he
        refine JC_skip ?_
        refine JE_seq ?_
        refine JC_seq ?_
        refine JC_draw [] (by kernel_rfl) ?_
        refine JA_dt (i := 0) rfl (by kernel_rfl) (by kernel_rfl) rfl rfl (det_loadKA rfl Try.isAgg25 Try.sizeOf25 rfl rfl) ?_
        refine JA_dt (i := 2) rfl (by kernel_rfl) (by kernel_rfl) rfl rfl (det_loadKA rfl Try.isAgg57 Try.sizeOf57 rfl rfl) ?_
        refine JA_one (i := 1) (by kernel_rfl) rfl rfl (jo_call rfl rfl Try.call19 rfl (lLane_j l ha pa hc pc (by omega) (by omega))) (fun _ => ⟨hsub_drop 0 rfl, fun _ h => h.2⟩) fun x35 => ?_
        refine JA_one (i := 3) (by kernel_rfl) rfl rfl (jo_callv rfl rfl Try.call30 rfl (lPocket_j p)) (fun _ => ⟨hsub_refl, fun _ h => h⟩) fun _ => ?_
        -- stop: op  4 t38 := (call (Call (value f29) (t35 t37) (37 62)))   <1 3 3>   180
        refine JA_one (i := 4) (by kernel_rfl) rfl rfl (jo_call rfl rfl Try.call29 rfl (Aims_jo l p x35.1.1 x35.2.1 x35.1.2 x35.2.2 he)) (fun _ => ⟨hsub_drop 0 rfl, fun _ h => h.2⟩) fun ⟨qa, qc⟩ => ?_
        refine JA_pd (i := 5) rfl (by kernel_rfl) rfl rfl (det_move rfl) ?_
        refine JA_pd (i := 6) rfl (by kernel_rfl) rfl rfl (det_extract rfl rfl) ?_
        refine JA_pd (i := 7) rfl (by kernel_rfl) rfl rfl (det_extract rfl rfl) ?_
        refine JA_pd (i := 8) rfl (by kernel_rfl) rfl rfl (det_assign rfl) ?_
        refine JA_pd (i := 9) rfl (by kernel_rfl) rfl rfl (det_assign rfl) ?_
        refine JA_done (by kernel_rfl) ?_
        refine JE_seq ?_
        refine JC_seq ?_
        -- stop: draw
        refine JC_cutN (γ := Nat) (fun _ => True) (fun b7 => [(7, pt b7), (8, I 0), (9, I 9)]) (fun b7 => [bx b7 [I 0, I 0]]) (fun K hK => ?_) (fun b7 _ => ?_)
        · refine JC_draw [10] (by kernel_rfl) ?_
          refine JA_dt (i := 0) rfl (by kernel_rfl) (by kernel_rfl) rfl rfl (det_loadKA rfl Try.isAgg25 Try.sizeOf25 rfl rfl) ?_
          refine JA_dt (i := 2) rfl (by kernel_rfl) (by kernel_rfl) rfl rfl (det_loadKA rfl Try.isAgg57 Try.sizeOf57 rfl rfl) ?_
          refine JA_ready (rs := [1, 9]) (by kernel_rfl) rfl ?_
          refine JAl_cons (i := 1) rfl rfl (jo_call rfl rfl Try.call19 rfl (lLane_j l ha pa hc pc (by omega) (by omega))) (fun _ => ⟨hsub_drop 0 rfl, fun _ h => h.2⟩) (fun x43 => ?_) ?_
          · refine JA_ready (rs := [3, 9]) (by kernel_rfl) rfl ?_
            refine JAl_cons (i := 3) rfl rfl (jo_callv rfl rfl Try.call30 rfl (lPocket_j p)) (fun _ => ⟨hsub_refl, fun _ h => h⟩) (fun _ => ?_) ?_
            · refine JA_ready (rs := [4, 9]) (by kernel_rfl) rfl ?_
              refine JAl_cons (i := 4) rfl rfl (jo_callv rfl rfl Try.call31 rfl (hbb x43.1.1 x43.2.1 x43.1.2 x43.2.2)) (fun _ => ⟨hsub_refl, fun _ h => h⟩) (fun _ => ?_) ?_
              · refine JA_pd (i := 5) rfl (by kernel_rfl) rfl rfl (det_move rfl) ?_
                refine JA_pd (i := 6) rfl (by kernel_rfl) rfl rfl (det_extract rfl rfl) ?_
                refine JA_pd (i := 7) rfl (by kernel_rfl) rfl rfl (det_extract rfl rfl) ?_
                refine JA_pd (i := 8) rfl (by kernel_rfl) rfl rfl (det_extract rfl rfl) ?_
                refine JA_one (i := 9) (by kernel_rfl) rfl rfl (jo_alloc0 Try.zeroValue39 rfl) (fun _ => ⟨hsub_drop 1 rfl, fun _ h => h⟩) fun b7 => ?_
                refine JA_tail (i := 10) (by kernel_rfl) rfl rfl rfl rfl (jo_store rfl rfl rfl (by first | (simp only [splice_norm]; done) | (simp only [splice_norm]; rfl) | rfl) Try.sizeOf39 rfl rfl) fun _ => ?_
                refine JT_pd (i := 11) rfl (by kernel_rfl) rfl rfl (det_assign rfl) ?_
                refine JT_pd (i := 12) rfl (by kernel_rfl) rfl rfl (det_assign rfl) ?_
                refine JT_done (by kernel_rfl) ?_
                exact JE_cutF hK b7 trivial (stsub_cons rfl (stsub_cons rfl (stsub_cons rfl stsub_nil))) (ht_cons ht_nil)
              refine JAl_cons (i := 9) rfl rfl (jo_alloc0 Try.zeroValue39 rfl) (fun _ => ⟨hsub_drop 1 rfl, fun _ h => h⟩) (fun b7 => ?_) ?_
              · refine JA_one (i := 4) (by kernel_rfl) rfl rfl (jo_callv rfl rfl Try.call31 rfl (hbb x43.1.1 x43.2.1 x43.1.2 x43.2.2)) (fun _ => ⟨hsub_refl, fun _ h => h⟩) fun _ => ?_
                refine JA_pd (i := 5) rfl (by kernel_rfl) rfl rfl (det_move rfl) ?_
                refine JA_pd (i := 6) rfl (by kernel_rfl) rfl rfl (det_extract rfl rfl) ?_
                refine JA_pd (i := 7) rfl (by kernel_rfl) rfl rfl (det_extract rfl rfl) ?_
                refine JA_pd (i := 8) rfl (by kernel_rfl) rfl rfl (det_extract rfl rfl) ?_
                refine JA_tail (i := 10) (by kernel_rfl) rfl rfl rfl rfl (jo_store rfl rfl rfl (by first | (simp only [splice_norm]; done) | (simp only [splice_norm]; rfl) | rfl) Try.sizeOf39 rfl rfl) fun _ => ?_
                refine JT_pd (i := 11) rfl (by kernel_rfl) rfl rfl (det_assign rfl) ?_
                refine JT_pd (i := 12) rfl (by kernel_rfl) rfl rfl (det_assign rfl) ?_
                refine JT_done (by kernel_rfl) ?_
                exact JE_cutF hK b7 trivial (stsub_cons rfl (stsub_cons rfl (stsub_cons rfl stsub_nil))) (ht_cons ht_nil)
              exact JAl_nil
            refine JAl_cons (i := 9) rfl rfl (jo_alloc0 Try.zeroValue39 rfl) (fun _ => ⟨hsub_drop 1 rfl, fun _ h => h⟩) (fun b7 => ?_) ?_
            · refine JA_one (i := 3) (by kernel_rfl) rfl rfl (jo_callv rfl rfl Try.call30 rfl (lPocket_j p)) (fun _ => ⟨hsub_refl, fun _ h => h⟩) fun _ => ?_
              refine JA_one (i := 4) (by kernel_rfl) rfl rfl (jo_callv rfl rfl Try.call31 rfl (hbb x43.1.1 x43.2.1 x43.1.2 x43.2.2)) (fun _ => ⟨hsub_refl, fun _ h => h⟩) fun _ => ?_
              refine JA_pd (i := 5) rfl (by kernel_rfl) rfl rfl (det_move rfl) ?_
              refine JA_pd (i := 6) rfl (by kernel_rfl) rfl rfl (det_extract rfl rfl) ?_
              refine JA_pd (i := 7) rfl (by kernel_rfl) rfl rfl (det_extract rfl rfl) ?_
              refine JA_pd (i := 8) rfl (by kernel_rfl) rfl rfl (det_extract rfl rfl) ?_
              refine JA_tail (i := 10) (by kernel_rfl) rfl rfl rfl rfl (jo_store rfl rfl rfl (by first | (simp only [splice_norm]; done) | (simp only [splice_norm]; rfl) | rfl) Try.sizeOf39 rfl rfl) fun _ => ?_
              refine JT_pd (i := 11) rfl (by kernel_rfl) rfl rfl (det_assign rfl) ?_
              refine JT_pd (i := 12) rfl (by kernel_rfl) rfl rfl (det_assign rfl) ?_
              refine JT_done (by kernel_rfl) ?_
              exact JE_cutF hK b7 trivial (stsub_cons rfl (stsub_cons rfl (stsub_cons rfl stsub_nil))) (ht_cons ht_nil)
            exact JAl_nil
          refine JAl_cons (i := 9) rfl rfl (jo_alloc0 Try.zeroValue39 rfl) (fun _ => ⟨hsub_drop 1 rfl, fun _ h => h⟩) (fun b7 => ?_) ?_
          · refine JA_one (i := 1) (by kernel_rfl) rfl rfl (jo_call rfl rfl Try.call19 rfl (lLane_j l ha pa hc pc (by omega) (by omega))) (fun _ => ⟨hsub_drop 0 rfl, fun _ h => h.2⟩) fun x43 => ?_
            refine JA_one (i := 3) (by kernel_rfl) rfl rfl (jo_callv rfl rfl Try.call30 rfl (lPocket_j p)) (fun _ => ⟨hsub_refl, fun _ h => h⟩) fun _ => ?_
            refine JA_one (i := 4) (by kernel_rfl) rfl rfl (jo_callv rfl rfl Try.call31 rfl (hbb x43.1.1 x43.2.1 x43.1.2 x43.2.2)) (fun _ => ⟨hsub_refl, fun _ h => h⟩) fun _ => ?_
            refine JA_pd (i := 5) rfl (by kernel_rfl) rfl rfl (det_move rfl) ?_
            refine JA_pd (i := 6) rfl (by kernel_rfl) rfl rfl (det_extract rfl rfl) ?_
            refine JA_pd (i := 7) rfl (by kernel_rfl) rfl rfl (det_extract rfl rfl) ?_
            refine JA_pd (i := 8) rfl (by kernel_rfl) rfl rfl (det_extract rfl rfl) ?_
            refine JA_tail (i := 10) (by kernel_rfl) rfl rfl rfl rfl (jo_store rfl rfl rfl (by first | (simp only [splice_norm]; done) | (simp only [splice_norm]; rfl) | rfl) Try.sizeOf39 rfl rfl) fun _ => ?_
            refine JT_pd (i := 11) rfl (by kernel_rfl) rfl rfl (det_assign rfl) ?_
            refine JT_pd (i := 12) rfl (by kernel_rfl) rfl rfl (det_assign rfl) ?_
            refine JT_done (by kernel_rfl) ?_
            exact JE_cutF hK b7 trivial (stsub_cons rfl (stsub_cons rfl (stsub_cons rfl stsub_nil))) (ht_cons ht_nil)
          exact JAl_nil
        dsimp only [List.cons_append, List.nil_append]
        refine JC_seq ?_
        refine JC_region ?_
        refine JL_dt rfl (det_loadKA rfl Try.isAgg25 Try.sizeOf25 rfl rfl) ?_
        refine JL_step rfl rfl rfl (jo_callv rfl rfl Try.call32 rfl (lfault_j l ha pa hc pc)) fun _ => ?_
        refine JL_pd rfl (det_assign rfl) ?_
        refine JL_nil ?_
        refine JE_seq ?_
        refine JC_seq ?_
        refine JC_seq ?_
        refine JC_region ?_
        refine JL_pd rfl (det_move rfl) ?_
        refine JL_pd rfl (det_eql rfl rfl) ?_
        refine JL_pd rfl (det_move rfl) ?_
        -- stop: guard 2
        refine JL_is (d0 := 54) true rfl (by exact decide_eq_true hf) (fun g1 => ?_)
        refine JL_guard rfl rfl g1 ?_
        refine JL_dt rfl (det_loadKA rfl Try.isAgg57 Try.sizeOf57 rfl rfl) ?_
        refine JL_guard rfl rfl g1 ?_
        refine JL_step rfl rfl rfl (jo_callv rfl rfl Try.call33 rfl (rIsPocket_j p)) fun _ => ?_
        refine JL_guard rfl rfl g1 ?_
        refine JL_pd rfl (det_not rfl) ?_
        refine JL_pd rfl (det_pick_t rfl g1 rfl) ?_
        refine JL_nil ?_
        refine JE_seq ?_
        -- stop: cond
        rw [hp]
        refine JC_cond rfl (fun h2 => ?_) (fun h2 => ?_)
        · cases h2
        · refine JC_skip ?_
          refine JE_seq ?_
          refine JC_seq ?_
          refine JC_seq ?_
          refine JC_region ?_
          refine JL_pd rfl (det_move rfl) ?_
          refine JL_pd rfl (det_neq rfl rfl) ?_
          refine JL_nil ?_
          refine JE_seq ?_
          -- stop: cond
          refine JC_ifn rfl (fun h3 => ?_) (fun h3 => ?_)
          · exact absurd hf h3
          · refine JC_skip ?_
            refine JE_seq ?_
            refine JC_seq ?_
            refine JC_region ?_
            refine JL_dt rfl (det_loadKA rfl Try.isAgg25 Try.sizeOf25 rfl rfl) ?_
            refine JL_dt rfl (det_loadKA rfl Try.isAgg57 Try.sizeOf57 rfl rfl) ?_
            -- stop: op  2 t88 := (call (Call (value f34) (t86 t87) (25 57)))   <0 1>   189
            refine JL_step rfl rfl rfl (jo_call rfl rfl Try.call34 rfl (rAims_j l p ha pa hc pc V hB)) fun ⟨ya, yc⟩ => ?_
            refine JL_pd rfl (det_assign rfl) ?_
            refine JL_nil ?_
            refine JE_seq ?_
            refine JC_seq ?_
            refine JC_seq ?_
            refine JC_region ?_
            refine JL_pd rfl (det_move rfl) ?_
            refine JL_pd rfl (det_neq rfl rfl) ?_
            refine JL_pd rfl (det_move rfl) ?_
            -- stop: guard 2
            refine JL_join1 5 96 (.bool false) (fun hj => ?_) ?_
            · refine JL_split (d0 := 91) rfl (fun q4 => ?_) (fun q4 => ?_)
              · refine JL_skip rfl rfl q4 rfl ?_
                refine JL_skip rfl rfl q4 rfl ?_
                refine JL_skip rfl rfl q4 rfl ?_
                refine JL_skip rfl rfl q4 rfl ?_
                refine JL_pd rfl (det_pick_t rfl q4 rfl) ?_
                exact hj (by kernel_rfl) (stsub_consB rfl (by clear hj; first | rfl | (simp only [q4, Bool.and_true, Bool.true_and, Bool.false_and, Bool.and_false, Bool.or_true, Bool.true_or, Bool.or_false, Bool.false_or, Bool.not_true, Bool.not_false]; done) | (simp [q4]; done) | (simp at q4; done) | (simp [q4] <;> omega) | (exfalso; simp at q4; omega)) stsub_nil)
              · refine JL_guard rfl rfl q4 ?_
                refine JL_pd rfl (det_move rfl) ?_
                refine JL_guard rfl rfl q4 ?_
                refine JL_pd rfl (det_move rfl) ?_
                refine JL_guard rfl rfl q4 ?_
                refine JL_step rfl rfl rfl (jo_callv rfl rfl Try.call24 rfl (lstates_j (aimsL l p) (aimsL l p) qa ya qc yc (by omega))) fun _ => ?_
                refine JL_guard rfl rfl q4 ?_
                refine JL_pd rfl (det_not rfl) ?_
                refine JL_pd rfl (det_pick_f rfl q4 rfl) ?_
                exact hj (by kernel_rfl) (stsub_consB rfl (by clear hj; first | rfl | (simp only [q4, Bool.and_true, Bool.true_and, Bool.false_and, Bool.and_false, Bool.or_true, Bool.true_or, Bool.or_false, Bool.false_or, Bool.not_true, Bool.not_false]; done) | (simp [q4]; done) | (simp at q4; done) | (simp [q4] <;> omega) | (exfalso; simp at q4; omega)) stsub_nil)
            refine JL_nil ?_
            refine JE_seq ?_
            refine JC_condF rfl rfl ?_
            refine JC_skip ?_
            refine JE_seq ?_
            refine JC_seq ?_
            refine JC_seq ?_
            refine JC_region ?_
            refine JL_pd rfl (det_move rfl) ?_
            refine JL_pd rfl (det_len rfl Try.runUnderlying43) ?_
            refine JL_pd rfl (det_eql rfl rfl) ?_
            refine JL_nil ?_
            refine JE_seq ?_
            -- stop: cond
            rw [hnil]
            refine JC_if rfl (fun h4 => ?_) (fun h4 => ?_)
            · refine JC_seq ?_
              refine JC_region ?_
              refine JL_pd rfl (det_move rfl) ?_
              refine JL_pd rfl (det_eql rfl rfl) ?_
              refine JL_pd rfl (det_move rfl) ?_
              -- stop: guard 2
              refine JL_join1 12 4 (.bool true) (fun hj => ?_) ?_
              · refine JL_split (d0 := 102) rfl (fun q5 => ?_) (fun q5 => ?_)
                · refine JL_guard rfl rfl q5 ?_
                  refine JL_dt rfl (det_loadKA rfl Try.isAgg39 Try.sizeOf39 rfl rfl) ?_
                  refine JL_guard rfl rfl q5 ?_
                  refine JL_pd rfl (det_build rfl (bld_39)) ?_
                  refine JL_guard rfl rfl q5 ?_
                  refine JL_pd rfl (det_eqlA rfl rfl egt_39 (eqa_39 _ _ _ _)) ?_
                  refine JL_pd rfl (det_pick_t rfl q5 rfl) ?_
                  refine JL_pd rfl (det_move rfl) ?_
                  refine JL_split (d0 := 107) rfl (fun q6 => ?_) (fun q6 => ?_)
                  · refine JL_guard rfl rfl q6 ?_
                    refine JL_pd rfl (det_move rfl) ?_
                    refine JL_guard rfl rfl q6 ?_
                    refine JL_pd rfl (det_eql rfl rfl) ?_
                    refine JL_pd rfl (det_pick_t rfl q6 rfl) ?_
                    refine JL_pd rfl (det_move rfl) ?_
                    refine JL_split (d0 := 111) rfl (fun q7 => ?_) (fun q7 => ?_)
                    · refine JL_guard rfl rfl q7 ?_
                      refine JL_step rfl rfl rfl (jo_callv rfl rfl Try.call17 rfl (lawake_j)) fun _ => ?_
                      refine JL_pd rfl (det_pick_t rfl q7 rfl) ?_
                      refine JL_pd rfl (det_assign rfl) ?_
                      exact hj (by kernel_rfl) (stsub_consB rfl (by clear hj; first | rfl | (simp only [q5, q6, q7, Bool.and_true, Bool.true_and, Bool.false_and, Bool.and_false, Bool.or_true, Bool.true_or, Bool.or_false, Bool.false_or, Bool.not_true, Bool.not_false]; done) | (simp [q5, q6, q7]; done) | (simp at q5; done) | (simp at q6; done) | (simp at q7; done) | (simp [q5, q6, q7] <;> omega) | (exfalso; simp at q5 q6 q7; omega) | (simp [q6, q7] at q5; done) | (simp [q5, q7] at q6; done) | (simp [q5, q6] at q7; done)) stsub_nil)
                    · refine JL_skip rfl rfl q7 rfl ?_
                      refine JL_pd rfl (det_pick_f rfl q7 rfl) ?_
                      refine JL_pd rfl (det_assign rfl) ?_
                      exact hj (by kernel_rfl) (stsub_consB rfl (by clear hj; first | rfl | (simp only [q5, q6, q7, Bool.and_true, Bool.true_and, Bool.false_and, Bool.and_false, Bool.or_true, Bool.true_or, Bool.or_false, Bool.false_or, Bool.not_true, Bool.not_false]; done) | (simp [q5, q6, q7]; done) | (simp at q5; done) | (simp at q6; done) | (simp at q7; done) | (simp [q5, q6, q7] <;> omega) | (exfalso; simp at q5 q6 q7; omega) | (simp [q6, q7] at q5; done) | (simp [q5, q7] at q6; done) | (simp [q5, q6] at q7; done)) stsub_nil)
                  · refine JL_skip rfl rfl q6 rfl ?_
                    refine JL_skip rfl rfl q6 rfl ?_
                    refine JL_pd rfl (det_pick_f rfl q6 rfl) ?_
                    refine JL_pd rfl (det_move rfl) ?_
                    refine JL_skip rfl rfl rfl rfl ?_
                    refine JL_pd rfl (det_pick_f rfl rfl rfl) ?_
                    refine JL_pd rfl (det_assign rfl) ?_
                    exact hj (by kernel_rfl) (stsub_consB rfl (by clear hj; first | rfl | (simp only [q5, q6, Bool.and_true, Bool.true_and, Bool.false_and, Bool.and_false, Bool.or_true, Bool.true_or, Bool.or_false, Bool.false_or, Bool.not_true, Bool.not_false]; done) | (simp [q5, q6]; done) | (simp at q5; done) | (simp at q6; done) | (simp [q5, q6] <;> omega) | (exfalso; simp at q5 q6; omega) | (simp [q6] at q5; done) | (simp [q5] at q6; done)) stsub_nil)
                · refine JL_skip rfl rfl q5 rfl ?_
                  refine JL_skip rfl rfl q5 rfl ?_
                  refine JL_skip rfl rfl q5 rfl ?_
                  refine JL_pd rfl (det_pick_f rfl q5 rfl) ?_
                  refine JL_pd rfl (det_move rfl) ?_
                  refine JL_skip rfl rfl rfl rfl ?_
                  refine JL_skip rfl rfl rfl rfl ?_
                  refine JL_pd rfl (det_pick_f rfl rfl rfl) ?_
                  refine JL_pd rfl (det_move rfl) ?_
                  refine JL_skip rfl rfl rfl rfl ?_
                  refine JL_pd rfl (det_pick_f rfl rfl rfl) ?_
                  refine JL_pd rfl (det_assign rfl) ?_
                  exact hj (by kernel_rfl) (stsub_consB rfl (by clear hj; first | rfl | (simp only [q5, Bool.and_true, Bool.true_and, Bool.false_and, Bool.and_false, Bool.or_true, Bool.true_or, Bool.or_false, Bool.false_or, Bool.not_true, Bool.not_false]; done) | (simp [q5]; done) | (simp at q5; done) | (simp [q5] <;> omega) | (exfalso; simp at q5; omega)) stsub_nil)
              refine JL_nil ?_
              refine JE_seq ?_
              refine JC_ret ?_
              refine JE_seq_ret ?_
              -- stop: out
              refine JE_out (.inl rfl) () (results1 Try.results5 (res_tmp rfl)) rfl (List.Perm.refl _) (fun _ _ => trivial)
            · exact absurd rfl h4
      | cons a0 r0 =>
        have hra : aimsL l p = a0 :: r0 := by rw [← hA, hca]
        have hne : aimsL l p ≠ [] := by rw [hra]; simp
        obtain ⟨e1, e2, e3⟩ := bestG_is hne
        have hbb := Best_jo l p
        have hbb : ∀ (ha pa : Option Addr) (hc pc : Nat), Cv Try.prog 31 [.agg #[I l.boards, I l.rows, .slice ha l.hooks.length hc, .slice pa l.patches.length pc], .agg #[I p.boards.lo, I p.boards.hi, I p.dirs.lo, I p.dirs.hi]] (KLane l ha hc pa pc) (.tuple #[.agg #[I (bestG (aimsL l p)).b, I (bestG (aimsL l p)).d], I ((roomN (aimsL l p) (bestG (aimsL l p)) : Int) - 1), I 0]) := fun ha pa hc pc => by
          have h := hbb ha pa hc pc he
          rw [if_neg (by omega), e1, e2] at h
          exact h
        refine JC_skip ?_
        refine JE_seq ?_
        refine JC_seq ?_
        refine JC_draw [] (by kernel_rfl) ?_
        refine JA_dt (i := 0) rfl (by kernel_rfl) (by kernel_rfl) rfl rfl (det_loadKA rfl Try.isAgg25 Try.sizeOf25 rfl rfl) ?_
        refine JA_dt (i := 2) rfl (by kernel_rfl) (by kernel_rfl) rfl rfl (det_loadKA rfl Try.isAgg57 Try.sizeOf57 rfl rfl) ?_
        refine JA_one (i := 1) (by kernel_rfl) rfl rfl (jo_call rfl rfl Try.call19 rfl (lLane_j l ha pa hc pc (by omega) (by omega))) (fun _ => ⟨hsub_drop 0 rfl, fun _ h => h.2⟩) fun x35 => ?_
        refine JA_one (i := 3) (by kernel_rfl) rfl rfl (jo_callv rfl rfl Try.call30 rfl (lPocket_j p)) (fun _ => ⟨hsub_refl, fun _ h => h⟩) fun _ => ?_
        -- stop: op  4 t38 := (call (Call (value f29) (t35 t37) (37 62)))   <1 3 3>   180
        refine JA_one (i := 4) (by kernel_rfl) rfl rfl (jo_call rfl rfl Try.call29 rfl (Aims_jo l p x35.1.1 x35.2.1 x35.1.2 x35.2.2 he)) (fun _ => ⟨hsub_drop 0 rfl, fun _ h => h.2⟩) fun ⟨qa, qc⟩ => ?_
        refine JA_pd (i := 5) rfl (by kernel_rfl) rfl rfl (det_move rfl) ?_
        refine JA_pd (i := 6) rfl (by kernel_rfl) rfl rfl (det_extract rfl rfl) ?_
        refine JA_pd (i := 7) rfl (by kernel_rfl) rfl rfl (det_extract rfl rfl) ?_
        refine JA_pd (i := 8) rfl (by kernel_rfl) rfl rfl (det_assign rfl) ?_
        refine JA_pd (i := 9) rfl (by kernel_rfl) rfl rfl (det_assign rfl) ?_
        refine JA_done (by kernel_rfl) ?_
        refine JE_seq ?_
        refine JC_seq ?_
        -- stop: draw
        refine JC_cutN (γ := Nat) (fun _ => True) (fun b7 => [(7, pt b7), (8, I ((roomN (aimsL l p) (bestG (aimsL l p)) : Int) - 1)), (9, I 0)]) (fun b7 => [bx b7 [I (bestG (aimsL l p)).b, I (bestG (aimsL l p)).d]]) (fun K hK => ?_) (fun b7 _ => ?_)
        · refine JC_draw [10] (by kernel_rfl) ?_
          refine JA_dt (i := 0) rfl (by kernel_rfl) (by kernel_rfl) rfl rfl (det_loadKA rfl Try.isAgg25 Try.sizeOf25 rfl rfl) ?_
          refine JA_dt (i := 2) rfl (by kernel_rfl) (by kernel_rfl) rfl rfl (det_loadKA rfl Try.isAgg57 Try.sizeOf57 rfl rfl) ?_
          refine JA_ready (rs := [1, 9]) (by kernel_rfl) rfl ?_
          refine JAl_cons (i := 1) rfl rfl (jo_call rfl rfl Try.call19 rfl (lLane_j l ha pa hc pc (by omega) (by omega))) (fun _ => ⟨hsub_drop 0 rfl, fun _ h => h.2⟩) (fun x43 => ?_) ?_
          · refine JA_ready (rs := [3, 9]) (by kernel_rfl) rfl ?_
            refine JAl_cons (i := 3) rfl rfl (jo_callv rfl rfl Try.call30 rfl (lPocket_j p)) (fun _ => ⟨hsub_refl, fun _ h => h⟩) (fun _ => ?_) ?_
            · refine JA_ready (rs := [4, 9]) (by kernel_rfl) rfl ?_
              refine JAl_cons (i := 4) rfl rfl (jo_callv rfl rfl Try.call31 rfl (hbb x43.1.1 x43.2.1 x43.1.2 x43.2.2)) (fun _ => ⟨hsub_refl, fun _ h => h⟩) (fun _ => ?_) ?_
              · refine JA_pd (i := 5) rfl (by kernel_rfl) rfl rfl (det_move rfl) ?_
                refine JA_pd (i := 6) rfl (by kernel_rfl) rfl rfl (det_extract rfl rfl) ?_
                refine JA_pd (i := 7) rfl (by kernel_rfl) rfl rfl (det_extract rfl rfl) ?_
                refine JA_pd (i := 8) rfl (by kernel_rfl) rfl rfl (det_extract rfl rfl) ?_
                refine JA_one (i := 9) (by kernel_rfl) rfl rfl (jo_alloc0 Try.zeroValue39 rfl) (fun _ => ⟨hsub_drop 1 rfl, fun _ h => h⟩) fun b7 => ?_
                refine JA_tail (i := 10) (by kernel_rfl) rfl rfl rfl rfl (jo_store rfl rfl rfl (by first | (simp only [splice_norm]; done) | (simp only [splice_norm]; rfl) | rfl) Try.sizeOf39 rfl rfl) fun _ => ?_
                refine JT_pd (i := 11) rfl (by kernel_rfl) rfl rfl (det_assign rfl) ?_
                refine JT_pd (i := 12) rfl (by kernel_rfl) rfl rfl (det_assign rfl) ?_
                refine JT_done (by kernel_rfl) ?_
                exact JE_cutF hK b7 trivial (stsub_cons rfl (stsub_cons rfl (stsub_cons rfl stsub_nil))) (ht_cons ht_nil)
              refine JAl_cons (i := 9) rfl rfl (jo_alloc0 Try.zeroValue39 rfl) (fun _ => ⟨hsub_drop 1 rfl, fun _ h => h⟩) (fun b7 => ?_) ?_
              · refine JA_one (i := 4) (by kernel_rfl) rfl rfl (jo_callv rfl rfl Try.call31 rfl (hbb x43.1.1 x43.2.1 x43.1.2 x43.2.2)) (fun _ => ⟨hsub_refl, fun _ h => h⟩) fun _ => ?_
                refine JA_pd (i := 5) rfl (by kernel_rfl) rfl rfl (det_move rfl) ?_
                refine JA_pd (i := 6) rfl (by kernel_rfl) rfl rfl (det_extract rfl rfl) ?_
                refine JA_pd (i := 7) rfl (by kernel_rfl) rfl rfl (det_extract rfl rfl) ?_
                refine JA_pd (i := 8) rfl (by kernel_rfl) rfl rfl (det_extract rfl rfl) ?_
                refine JA_tail (i := 10) (by kernel_rfl) rfl rfl rfl rfl (jo_store rfl rfl rfl (by first | (simp only [splice_norm]; done) | (simp only [splice_norm]; rfl) | rfl) Try.sizeOf39 rfl rfl) fun _ => ?_
                refine JT_pd (i := 11) rfl (by kernel_rfl) rfl rfl (det_assign rfl) ?_
                refine JT_pd (i := 12) rfl (by kernel_rfl) rfl rfl (det_assign rfl) ?_
                refine JT_done (by kernel_rfl) ?_
                exact JE_cutF hK b7 trivial (stsub_cons rfl (stsub_cons rfl (stsub_cons rfl stsub_nil))) (ht_cons ht_nil)
              exact JAl_nil
            refine JAl_cons (i := 9) rfl rfl (jo_alloc0 Try.zeroValue39 rfl) (fun _ => ⟨hsub_drop 1 rfl, fun _ h => h⟩) (fun b7 => ?_) ?_
            · refine JA_one (i := 3) (by kernel_rfl) rfl rfl (jo_callv rfl rfl Try.call30 rfl (lPocket_j p)) (fun _ => ⟨hsub_refl, fun _ h => h⟩) fun _ => ?_
              refine JA_one (i := 4) (by kernel_rfl) rfl rfl (jo_callv rfl rfl Try.call31 rfl (hbb x43.1.1 x43.2.1 x43.1.2 x43.2.2)) (fun _ => ⟨hsub_refl, fun _ h => h⟩) fun _ => ?_
              refine JA_pd (i := 5) rfl (by kernel_rfl) rfl rfl (det_move rfl) ?_
              refine JA_pd (i := 6) rfl (by kernel_rfl) rfl rfl (det_extract rfl rfl) ?_
              refine JA_pd (i := 7) rfl (by kernel_rfl) rfl rfl (det_extract rfl rfl) ?_
              refine JA_pd (i := 8) rfl (by kernel_rfl) rfl rfl (det_extract rfl rfl) ?_
              refine JA_tail (i := 10) (by kernel_rfl) rfl rfl rfl rfl (jo_store rfl rfl rfl (by first | (simp only [splice_norm]; done) | (simp only [splice_norm]; rfl) | rfl) Try.sizeOf39 rfl rfl) fun _ => ?_
              refine JT_pd (i := 11) rfl (by kernel_rfl) rfl rfl (det_assign rfl) ?_
              refine JT_pd (i := 12) rfl (by kernel_rfl) rfl rfl (det_assign rfl) ?_
              refine JT_done (by kernel_rfl) ?_
              exact JE_cutF hK b7 trivial (stsub_cons rfl (stsub_cons rfl (stsub_cons rfl stsub_nil))) (ht_cons ht_nil)
            exact JAl_nil
          refine JAl_cons (i := 9) rfl rfl (jo_alloc0 Try.zeroValue39 rfl) (fun _ => ⟨hsub_drop 1 rfl, fun _ h => h⟩) (fun b7 => ?_) ?_
          · refine JA_one (i := 1) (by kernel_rfl) rfl rfl (jo_call rfl rfl Try.call19 rfl (lLane_j l ha pa hc pc (by omega) (by omega))) (fun _ => ⟨hsub_drop 0 rfl, fun _ h => h.2⟩) fun x43 => ?_
            refine JA_one (i := 3) (by kernel_rfl) rfl rfl (jo_callv rfl rfl Try.call30 rfl (lPocket_j p)) (fun _ => ⟨hsub_refl, fun _ h => h⟩) fun _ => ?_
            refine JA_one (i := 4) (by kernel_rfl) rfl rfl (jo_callv rfl rfl Try.call31 rfl (hbb x43.1.1 x43.2.1 x43.1.2 x43.2.2)) (fun _ => ⟨hsub_refl, fun _ h => h⟩) fun _ => ?_
            refine JA_pd (i := 5) rfl (by kernel_rfl) rfl rfl (det_move rfl) ?_
            refine JA_pd (i := 6) rfl (by kernel_rfl) rfl rfl (det_extract rfl rfl) ?_
            refine JA_pd (i := 7) rfl (by kernel_rfl) rfl rfl (det_extract rfl rfl) ?_
            refine JA_pd (i := 8) rfl (by kernel_rfl) rfl rfl (det_extract rfl rfl) ?_
            refine JA_tail (i := 10) (by kernel_rfl) rfl rfl rfl rfl (jo_store rfl rfl rfl (by first | (simp only [splice_norm]; done) | (simp only [splice_norm]; rfl) | rfl) Try.sizeOf39 rfl rfl) fun _ => ?_
            refine JT_pd (i := 11) rfl (by kernel_rfl) rfl rfl (det_assign rfl) ?_
            refine JT_pd (i := 12) rfl (by kernel_rfl) rfl rfl (det_assign rfl) ?_
            refine JT_done (by kernel_rfl) ?_
            exact JE_cutF hK b7 trivial (stsub_cons rfl (stsub_cons rfl (stsub_cons rfl stsub_nil))) (ht_cons ht_nil)
          exact JAl_nil
        dsimp only [List.cons_append, List.nil_append]
        refine JC_seq ?_
        refine JC_region ?_
        refine JL_dt rfl (det_loadKA rfl Try.isAgg25 Try.sizeOf25 rfl rfl) ?_
        refine JL_step rfl rfl rfl (jo_callv rfl rfl Try.call32 rfl (lfault_j l ha pa hc pc)) fun _ => ?_
        refine JL_pd rfl (det_assign rfl) ?_
        refine JL_nil ?_
        refine JE_seq ?_
        refine JC_seq ?_
        refine JC_seq ?_
        refine JC_region ?_
        refine JL_pd rfl (det_move rfl) ?_
        refine JL_pd rfl (det_eql rfl rfl) ?_
        refine JL_pd rfl (det_move rfl) ?_
        -- stop: guard 2
        refine JL_is (d0 := 54) true rfl (by exact decide_eq_true hf) (fun g1 => ?_)
        refine JL_guard rfl rfl g1 ?_
        refine JL_dt rfl (det_loadKA rfl Try.isAgg57 Try.sizeOf57 rfl rfl) ?_
        refine JL_guard rfl rfl g1 ?_
        refine JL_step rfl rfl rfl (jo_callv rfl rfl Try.call33 rfl (rIsPocket_j p)) fun _ => ?_
        refine JL_guard rfl rfl g1 ?_
        refine JL_pd rfl (det_not rfl) ?_
        refine JL_pd rfl (det_pick_t rfl g1 rfl) ?_
        refine JL_nil ?_
        refine JE_seq ?_
        -- stop: cond
        rw [hp]
        refine JC_cond rfl (fun h2 => ?_) (fun h2 => ?_)
        · cases h2
        · refine JC_skip ?_
          refine JE_seq ?_
          refine JC_seq ?_
          refine JC_seq ?_
          refine JC_region ?_
          refine JL_pd rfl (det_move rfl) ?_
          refine JL_pd rfl (det_neq rfl rfl) ?_
          refine JL_nil ?_
          refine JE_seq ?_
          -- stop: cond
          refine JC_ifn rfl (fun h3 => ?_) (fun h3 => ?_)
          · exact absurd hf h3
          · refine JC_skip ?_
            refine JE_seq ?_
            refine JC_seq ?_
            refine JC_region ?_
            refine JL_dt rfl (det_loadKA rfl Try.isAgg25 Try.sizeOf25 rfl rfl) ?_
            refine JL_dt rfl (det_loadKA rfl Try.isAgg57 Try.sizeOf57 rfl rfl) ?_
            -- stop: op  2 t88 := (call (Call (value f34) (t86 t87) (25 57)))   <0 1>   189
            refine JL_step rfl rfl rfl (jo_call rfl rfl Try.call34 rfl (rAims_j l p ha pa hc pc V hB)) fun ⟨ya, yc⟩ => ?_
            refine JL_pd rfl (det_assign rfl) ?_
            refine JL_nil ?_
            refine JE_seq ?_
            refine JC_seq ?_
            refine JC_seq ?_
            refine JC_region ?_
            refine JL_pd rfl (det_move rfl) ?_
            refine JL_pd rfl (det_neq rfl rfl) ?_
            refine JL_pd rfl (det_move rfl) ?_
            -- stop: guard 2
            refine JL_join1 5 96 (.bool false) (fun hj => ?_) ?_
            · refine JL_split (d0 := 91) rfl (fun q8 => ?_) (fun q8 => ?_)
              · refine JL_skip rfl rfl q8 rfl ?_
                refine JL_skip rfl rfl q8 rfl ?_
                refine JL_skip rfl rfl q8 rfl ?_
                refine JL_skip rfl rfl q8 rfl ?_
                refine JL_pd rfl (det_pick_t rfl q8 rfl) ?_
                exact hj (by kernel_rfl) (stsub_consB rfl (by clear hj; first | rfl | (simp only [q8, Bool.and_true, Bool.true_and, Bool.false_and, Bool.and_false, Bool.or_true, Bool.true_or, Bool.or_false, Bool.false_or, Bool.not_true, Bool.not_false]; done) | (simp [q8]; done) | (simp at q8; done) | (simp [q8] <;> omega) | (exfalso; simp at q8; omega)) stsub_nil)
              · refine JL_guard rfl rfl q8 ?_
                refine JL_pd rfl (det_move rfl) ?_
                refine JL_guard rfl rfl q8 ?_
                refine JL_pd rfl (det_move rfl) ?_
                refine JL_guard rfl rfl q8 ?_
                refine JL_step rfl rfl rfl (jo_callv rfl rfl Try.call24 rfl (lstates_j (aimsL l p) (aimsL l p) qa ya qc yc (by omega))) fun _ => ?_
                refine JL_guard rfl rfl q8 ?_
                refine JL_pd rfl (det_not rfl) ?_
                refine JL_pd rfl (det_pick_f rfl q8 rfl) ?_
                exact hj (by kernel_rfl) (stsub_consB rfl (by clear hj; first | rfl | (simp only [q8, Bool.and_true, Bool.true_and, Bool.false_and, Bool.and_false, Bool.or_true, Bool.true_or, Bool.or_false, Bool.false_or, Bool.not_true, Bool.not_false]; done) | (simp [q8]; done) | (simp at q8; done) | (simp [q8] <;> omega) | (exfalso; simp at q8; omega)) stsub_nil)
            refine JL_nil ?_
            refine JE_seq ?_
            refine JC_condF rfl rfl ?_
            refine JC_skip ?_
            refine JE_seq ?_
            refine JC_seq ?_
            refine JC_seq ?_
            refine JC_region ?_
            refine JL_pd rfl (det_move rfl) ?_
            refine JL_pd rfl (det_len rfl Try.runUnderlying43) ?_
            refine JL_pd rfl (det_eql rfl rfl) ?_
            refine JL_nil ?_
            refine JE_seq ?_
            -- stop: cond
            have hpos : 0 < (aimsL l p).length := List.length_pos_iff.2 hne
            refine JC_if rfl (fun h4 => ?_) (fun h4 => ?_)
            · omega
            · have hR : ∀ (x : St), x ∈ aimsL l p → Cv Try.prog 35 [.slice ya (aimsL l p).length yc, .agg #[I x.b, I x.d]] (KSl ya (aimsL l p).length yc encSt (aimsL l p)) (I ((roomN (aimsL l p) x : Int) - 1)) := fun x hx => rRoom_j l p x ya yc v2 (hrm x (hA ▸ hx)).1 (hrm x (hA ▸ hx)).2
              have hrl : (aimsL l p).length = r0.length + 1 := by rw [hra]; rfl
              have hg0 : (aimsL l p)[0]'hpos = a0 := by
                have : (aimsL l p)[0]? = some a0 := by rw [hra]; rfl
                exact (List.getElem?_eq_some_iff.1 this).2
              have hbm : ∀ j, j ≤ r0.length → bestK (aimsL l p) a0 r0 j ∈ aimsL l p := fun j hj => by have := bestK_mem (aimsL l p) a0 r0 j hj; rwa [← hra] at this
              have hfin : bestK (aimsL l p) a0 r0 r0.length = bestG (aimsL l p) := by
                have : bestG (aimsL l p) = r0.foldl (fun b s => if (roomN (aimsL l p) b : Int) < roomN (aimsL l p) s then s else b) a0 := by
                  conv => lhs; rw [hra]
                  conv => rhs; rw [hra]
                  rfl
                rw [this, bestK, List.take_length]
              refine JC_skip ?_
              refine JE_seq ?_
              refine JC_seq ?_
              refine JC_region ?_
              refine JL_pd rfl (det_move rfl) ?_
              refine JL_dt rfl (det_indexAddr (i := 0) rfl rfl (by first | rfl | omega) (by first | assumption | omega | decide) Try.runUnderlying43 Try.sizeOf27) ?_
              refine JL_dt rfl (det_loadEA rfl (by first | assumption | omega | decide) Try.isAgg27 Try.sizeOf27 rfl rfl rfl) ?_
              refine JL_step rfl rfl rfl (jo_alloc0 Try.zeroValue27 rfl) fun b12 => ?_
              refine JL_step0 rfl rfl (jo_store rfl rfl rfl (by first | (simp only [splice_norm]; done) | (simp only [splice_norm]; rfl) | rfl) Try.sizeOf27 rfl rfl) fun _ => ?_
              refine JL_nil ?_
              refine JE_seq ?_
              refine JC_seq ?_
              refine JC_seq ?_
              refine JC_region ?_
              refine JL_pd rfl (det_assign rfl) ?_
              refine JL_nil ?_
              refine JE_seq ?_
              refine JC_block ?_
              -- stop: loop
              refine JC_loopF (γ := Nat) (fun j => j ≤ r0.length) (fun j => [(13, I (1 + j))]) (fun j => [bx b12 [I (bestK (aimsL l p) a0 r0 j).b, I (bestK (aimsL l p) a0 r0 j).d]]) (fun j => r0.length - j) 0 (by omega) (stsub_consI rfl (by omega) stsub_nil) (ht_bx (by rw [hg0]; rfl) ht_nil) ?_
              intro j hj K hK
              dsimp only [List.cons_append, List.nil_append]
              refine JC_seq ?_
              refine JC_seq ?_
              refine JC_region ?_
              refine JL_pd rfl (det_move rfl) ?_
              refine JL_pd rfl (det_move rfl) ?_
              refine JL_pd rfl (det_len rfl Try.runUnderlying43) ?_
              refine JL_pd rfl (det_lss rfl rfl) ?_
              refine JL_nil ?_
              refine JE_seq ?_
              -- stop: cond
              refine JC_if rfl (fun h5 => ?_) (fun h5 => ?_)
              · have hj2 : j < r0.length := by omega
                have hj3 : 1 + j < (aimsL l p).length := by omega
                have hgj : (aimsL l p)[1 + j] = r0[j] := by
                  have : (aimsL l p)[1 + j]? = some r0[j] := by rw [hra, Nat.add_comm, List.getElem?_cons_succ, List.getElem?_eq_getElem hj2]
                  exact (List.getElem?_eq_some_iff.1 this).2
                have hsn := bestK_snoc (aimsL l p) a0 r0 j hj2
                refine JC_skip ?_
                refine JE_seq ?_
                refine JC_seq ?_
                refine JC_block ?_
                refine JC_seq ?_
                refine JC_draw [] (by kernel_rfl) ?_
                refine JA_pd (i := 0) rfl (by kernel_rfl) rfl rfl (det_move rfl) ?_
                refine JA_pd (i := 1) rfl (by kernel_rfl) rfl rfl (det_move rfl) ?_
                refine JA_pd (i := 2) rfl (by kernel_rfl) rfl rfl (det_move rfl) ?_
                refine JA_dt (i := 3) rfl (by kernel_rfl) (by kernel_rfl) rfl rfl (det_indexAddr (i := 1 + j) rfl rfl (by omega) hj3 Try.runUnderlying43 Try.sizeOf27) ?_
                refine JA_dt (i := 4) rfl (by kernel_rfl) (by kernel_rfl) rfl rfl (det_loadEA rfl (by first | assumption | omega | decide) Try.isAgg27 Try.sizeOf27 rfl rfl rfl) ?_
                refine JA_pd (i := 6) rfl (by kernel_rfl) rfl rfl (det_move rfl) ?_
                refine JA_dt (i := 7) rfl (by kernel_rfl) (by kernel_rfl) rfl rfl (det_loadKA rfl Try.isAgg27 Try.sizeOf27 rfl rfl) ?_
                -- stop: op  5 t128 := (call (Call (value f35) (t123 t127) (43 27)))   <0 4>   198
                refine JA_one (i := 5) (by kernel_rfl) rfl rfl (jo_callv rfl rfl Try.call35 rfl (hR _ (List.getElem_mem hj3))) (fun _ => ⟨hsub_refl, fun _ h => h⟩) fun _ => ?_
                -- stop: op  8 t131 := (call (Call (value f35) (t129 t130) (43 27)))   <6 7 5>   198
                refine JA_one (i := 8) (by kernel_rfl) rfl rfl (jo_callv rfl rfl Try.call35 rfl (hR _ (hbm j (by omega)))) (fun _ => ⟨hsub_refl, fun _ h => h⟩) fun _ => ?_
                refine JA_pd (i := 9) rfl (by kernel_rfl) rfl rfl (det_gtr rfl rfl) ?_
                refine JA_done (by kernel_rfl) ?_
                refine JE_seq ?_
                -- stop: cond
                rw [hgj]
                refine JC_if rfl (fun h6 => ?_) (fun h6 => ?_)
                · refine JC_region ?_
                  refine JL_pd rfl (det_move rfl) ?_
                  refine JL_pd rfl (det_move rfl) ?_
                  refine JL_dt rfl (det_indexAddr (i := 1 + j) rfl rfl (by omega) hj3 Try.runUnderlying43 Try.sizeOf27) ?_
                  refine JL_dt rfl (det_loadEA rfl (by first | assumption | omega | decide) Try.isAgg27 Try.sizeOf27 rfl rfl rfl) ?_
                  refine JL_step0 rfl rfl (jo_store rfl rfl rfl (by first | (simp only [splice_norm]; done) | (simp only [splice_norm]; rfl) | rfl) Try.sizeOf27 rfl rfl) fun _ => ?_
                  refine JL_nil ?_
                  refine JE_block ?_
                  refine JE_seq ?_
                  refine JC_region ?_
                  refine JL_pd rfl (det_move rfl) ?_
                  refine JL_pd rfl (det_add rfl rfl ⟨by omega, by omega⟩) ?_
                  refine JL_pd rfl (det_assign rfl) ?_
                  refine JL_nil ?_
                  -- stop: end
                  refine JE_roundF hK (j + 1) (by omega) (by omega) (stsub_consI rfl (by omega) stsub_nil) (ht_bx (by rw [hgj, hsn, if_pos (by omega)]; rfl) ht_nil)
                · refine JC_skip ?_
                  refine JE_block ?_
                  refine JE_seq ?_
                  refine JC_region ?_
                  refine JL_pd rfl (det_move rfl) ?_
                  refine JL_pd rfl (det_add rfl rfl ⟨by omega, by omega⟩) ?_
                  refine JL_pd rfl (det_assign rfl) ?_
                  refine JL_nil ?_
                  -- stop: end
                  refine JE_roundF hK (j + 1) (by omega) (by omega) (stsub_consI rfl (by omega) stsub_nil) (ht_bx (by rw [hsn, if_neg (by omega)]) ht_nil)
              · have hje : j = r0.length := by omega
                rw [hje, hfin]
                have hbG : bestG (aimsL l p) ∈ aimsL l p := hfin ▸ hbm _ (Nat.le_refl _)
                refine JC_exit ?_
                refine JE_seq_exit ?_
                refine JE_then_exit ?_
                refine JE_block_here ?_
                refine JE_seq ?_
                refine JC_seq ?_
                refine JC_draw [] (by kernel_rfl) ?_
                refine JA_pd (i := 0) rfl (by kernel_rfl) rfl rfl (det_move rfl) ?_
                refine JA_pd (i := 1) rfl (by kernel_rfl) rfl rfl (det_eql rfl rfl) ?_
                refine JA_pd (i := 2) rfl (by kernel_rfl) rfl rfl (det_move rfl) ?_
                -- stop: guard 2
                refine JA_is (d0 := 139) true rfl (by first | rfl | exact decide_eq_true ⟨rfl, rfl⟩ | simp) (fun h9 => ?_)
                refine JA_gdt (i := 3) rfl (by kernel_rfl) (by kernel_rfl) rfl rfl rfl rfl h9 (det_loadKA rfl Try.isAgg39 Try.sizeOf39 rfl rfl) ?_
                refine JA_gdt (i := 4) rfl (by kernel_rfl) (by kernel_rfl) rfl rfl rfl rfl h9 (det_loadKA rfl Try.isAgg27 Try.sizeOf27 rfl rfl) ?_
                refine JA_gone (i := 5) (by kernel_rfl) rfl rfl rfl h9 rfl (jo_callv rfl rfl Try.call20 rfl (lStart_j ⟨_, _⟩)) (fun _ => ⟨hsub_refl, fun _ h => h⟩) fun _ => ?_
                refine JA_gpd (i := 6) rfl (by kernel_rfl) rfl rfl rfl rfl h9 (det_eqlA rfl rfl egt_39 (eqa_39 _ _ _ _)) ?_
                refine JA_pd (i := 7) rfl (by kernel_rfl) rfl rfl (det_pick_t rfl h9 rfl) ?_
                refine JA_pd (i := 8) rfl (by kernel_rfl) rfl rfl (det_move rfl) ?_
                refine JA_is (d0 := 145) true rfl (by first | rfl | exact decide_eq_true ⟨rfl, rfl⟩ | simp) (fun h10 => ?_)
                refine JA_gpd (i := 9) rfl (by kernel_rfl) rfl rfl rfl rfl h10 (det_move rfl) ?_
                refine JA_gpd (i := 10) rfl (by kernel_rfl) rfl rfl rfl rfl h10 (det_move rfl) ?_
                refine JA_gdt (i := 11) rfl (by kernel_rfl) (by kernel_rfl) rfl rfl rfl rfl h10 (det_loadKA rfl Try.isAgg27 Try.sizeOf27 rfl rfl) ?_
                refine JA_gone (i := 12) (by kernel_rfl) rfl rfl rfl h10 rfl (jo_callv rfl rfl Try.call35 rfl (hR _ hbG)) (fun _ => ⟨hsub_refl, fun _ h => h⟩) fun _ => ?_
                refine JA_gpd (i := 13) rfl (by kernel_rfl) rfl rfl rfl rfl h10 (det_eql rfl rfl) ?_
                refine JA_pd (i := 14) rfl (by kernel_rfl) rfl rfl (det_pick_t rfl h10 rfl) ?_
                refine JA_pd (i := 15) rfl (by kernel_rfl) rfl rfl (det_move rfl) ?_
                refine JA_is (d0 := 152) true rfl (by first | rfl | exact decide_eq_true ⟨rfl, rfl⟩ | simp) (fun h11 => ?_)
                refine JA_gone (i := 16) (by kernel_rfl) rfl rfl rfl h11 rfl (jo_callv rfl rfl Try.call17 rfl (lawake_j)) (fun _ => ⟨hsub_refl, fun _ h => h⟩) fun _ => ?_
                refine JA_pd (i := 17) rfl (by kernel_rfl) rfl rfl (det_pick_t rfl h11 rfl) ?_
                refine JA_pd (i := 18) rfl (by kernel_rfl) rfl rfl (det_assign rfl) ?_
                refine JA_done (by kernel_rfl) ?_
                refine JE_seq ?_
                refine JC_ret ?_
                refine JE_out (.inl rfl) () (results1 Try.results5 (res_tmp rfl)) ?_ (List.Perm.refl _) (fun _ _ => trivial)
                rfl
    · refine JC_skip ?_
      refine JE_seq ?_
      refine JC_seq ?_
      refine JC_draw [] (by kernel_rfl) ?_
      refine JA_dt (i := 0) rfl (by kernel_rfl) (by kernel_rfl) rfl rfl (det_loadKA rfl Try.isAgg25 Try.sizeOf25 rfl rfl) ?_
      refine JA_dt (i := 2) rfl (by kernel_rfl) (by kernel_rfl) rfl rfl (det_loadKA rfl Try.isAgg57 Try.sizeOf57 rfl rfl) ?_
      refine JA_one (i := 1) (by kernel_rfl) rfl rfl (jo_call rfl rfl Try.call19 rfl (lLane_j l ha pa hc pc (by omega) (by omega))) (fun _ => ⟨hsub_drop 0 rfl, fun _ h => h.2⟩) fun x35 => ?_
      refine JA_one (i := 3) (by kernel_rfl) rfl rfl (jo_callv rfl rfl Try.call30 rfl (lPocket_j p)) (fun _ => ⟨hsub_refl, fun _ h => h⟩) fun _ => ?_
      -- stop: op  4 t38 := (call (Call (value f29) (t35 t37) (37 62)))   <1 3 3>   180
      refine JA_one (i := 4) (by kernel_rfl) rfl rfl (jo_callv rfl rfl Try.call29 rfl (Aims_je l p x35.1.1 x35.2.1 x35.1.2 x35.2.2 he)) (fun _ => ⟨hsub_refl, fun _ h => h⟩) fun _ => ?_
      refine JA_pd (i := 5) rfl (by kernel_rfl) rfl rfl (det_move rfl) ?_
      refine JA_pd (i := 6) rfl (by kernel_rfl) rfl rfl (det_extract rfl rfl) ?_
      refine JA_pd (i := 7) rfl (by kernel_rfl) rfl rfl (det_extract rfl rfl) ?_
      refine JA_pd (i := 8) rfl (by kernel_rfl) rfl rfl (det_assign rfl) ?_
      refine JA_pd (i := 9) rfl (by kernel_rfl) rfl rfl (det_assign rfl) ?_
      refine JA_done (by kernel_rfl) ?_
      refine JE_seq ?_
      refine JC_seq ?_
      -- stop: draw
      refine JC_cutN (γ := Nat) (fun _ => True) (fun b7 => [(7, pt b7), (8, I 0), (9, I (aimsErr l p))]) (fun b7 => [bx b7 [I 0, I 0]]) (fun K hK => ?_) (fun b7 _ => ?_)
      · refine JC_draw [10] (by kernel_rfl) ?_
        refine JA_dt (i := 0) rfl (by kernel_rfl) (by kernel_rfl) rfl rfl (det_loadKA rfl Try.isAgg25 Try.sizeOf25 rfl rfl) ?_
        refine JA_dt (i := 2) rfl (by kernel_rfl) (by kernel_rfl) rfl rfl (det_loadKA rfl Try.isAgg57 Try.sizeOf57 rfl rfl) ?_
        refine JA_ready (rs := [1, 9]) (by kernel_rfl) rfl ?_
        refine JAl_cons (i := 1) rfl rfl (jo_call rfl rfl Try.call19 rfl (lLane_j l ha pa hc pc (by omega) (by omega))) (fun _ => ⟨hsub_drop 0 rfl, fun _ h => h.2⟩) (fun x43 => ?_) ?_
        · refine JA_ready (rs := [3, 9]) (by kernel_rfl) rfl ?_
          refine JAl_cons (i := 3) rfl rfl (jo_callv rfl rfl Try.call30 rfl (lPocket_j p)) (fun _ => ⟨hsub_refl, fun _ h => h⟩) (fun _ => ?_) ?_
          · refine JA_ready (rs := [4, 9]) (by kernel_rfl) rfl ?_
            refine JAl_cons (i := 4) rfl rfl (jo_callv rfl rfl Try.call31 rfl (Best_je l p x43.1.1 x43.2.1 x43.1.2 x43.2.2 he)) (fun _ => ⟨hsub_refl, fun _ h => h⟩) (fun _ => ?_) ?_
            · refine JA_pd (i := 5) rfl (by kernel_rfl) rfl rfl (det_move rfl) ?_
              refine JA_pd (i := 6) rfl (by kernel_rfl) rfl rfl (det_extract rfl rfl) ?_
              refine JA_pd (i := 7) rfl (by kernel_rfl) rfl rfl (det_extract rfl rfl) ?_
              refine JA_pd (i := 8) rfl (by kernel_rfl) rfl rfl (det_extract rfl rfl) ?_
              refine JA_one (i := 9) (by kernel_rfl) rfl rfl (jo_alloc0 Try.zeroValue39 rfl) (fun _ => ⟨hsub_drop 1 rfl, fun _ h => h⟩) fun b7 => ?_
              refine JA_tail (i := 10) (by kernel_rfl) rfl rfl rfl rfl (jo_store rfl rfl rfl (by first | (simp only [splice_norm]; done) | (simp only [splice_norm]; rfl) | rfl) Try.sizeOf39 rfl rfl) fun _ => ?_
              refine JT_pd (i := 11) rfl (by kernel_rfl) rfl rfl (det_assign rfl) ?_
              refine JT_pd (i := 12) rfl (by kernel_rfl) rfl rfl (det_assign rfl) ?_
              refine JT_done (by kernel_rfl) ?_
              exact JE_cutF hK b7 trivial (stsub_cons rfl (stsub_cons rfl (stsub_cons rfl stsub_nil))) (ht_cons ht_nil)
            refine JAl_cons (i := 9) rfl rfl (jo_alloc0 Try.zeroValue39 rfl) (fun _ => ⟨hsub_drop 1 rfl, fun _ h => h⟩) (fun b7 => ?_) ?_
            · refine JA_one (i := 4) (by kernel_rfl) rfl rfl (jo_callv rfl rfl Try.call31 rfl (Best_je l p x43.1.1 x43.2.1 x43.1.2 x43.2.2 he)) (fun _ => ⟨hsub_refl, fun _ h => h⟩) fun _ => ?_
              refine JA_pd (i := 5) rfl (by kernel_rfl) rfl rfl (det_move rfl) ?_
              refine JA_pd (i := 6) rfl (by kernel_rfl) rfl rfl (det_extract rfl rfl) ?_
              refine JA_pd (i := 7) rfl (by kernel_rfl) rfl rfl (det_extract rfl rfl) ?_
              refine JA_pd (i := 8) rfl (by kernel_rfl) rfl rfl (det_extract rfl rfl) ?_
              refine JA_tail (i := 10) (by kernel_rfl) rfl rfl rfl rfl (jo_store rfl rfl rfl (by first | (simp only [splice_norm]; done) | (simp only [splice_norm]; rfl) | rfl) Try.sizeOf39 rfl rfl) fun _ => ?_
              refine JT_pd (i := 11) rfl (by kernel_rfl) rfl rfl (det_assign rfl) ?_
              refine JT_pd (i := 12) rfl (by kernel_rfl) rfl rfl (det_assign rfl) ?_
              refine JT_done (by kernel_rfl) ?_
              exact JE_cutF hK b7 trivial (stsub_cons rfl (stsub_cons rfl (stsub_cons rfl stsub_nil))) (ht_cons ht_nil)
            exact JAl_nil
          refine JAl_cons (i := 9) rfl rfl (jo_alloc0 Try.zeroValue39 rfl) (fun _ => ⟨hsub_drop 1 rfl, fun _ h => h⟩) (fun b7 => ?_) ?_
          · refine JA_one (i := 3) (by kernel_rfl) rfl rfl (jo_callv rfl rfl Try.call30 rfl (lPocket_j p)) (fun _ => ⟨hsub_refl, fun _ h => h⟩) fun _ => ?_
            refine JA_one (i := 4) (by kernel_rfl) rfl rfl (jo_callv rfl rfl Try.call31 rfl (Best_je l p x43.1.1 x43.2.1 x43.1.2 x43.2.2 he)) (fun _ => ⟨hsub_refl, fun _ h => h⟩) fun _ => ?_
            refine JA_pd (i := 5) rfl (by kernel_rfl) rfl rfl (det_move rfl) ?_
            refine JA_pd (i := 6) rfl (by kernel_rfl) rfl rfl (det_extract rfl rfl) ?_
            refine JA_pd (i := 7) rfl (by kernel_rfl) rfl rfl (det_extract rfl rfl) ?_
            refine JA_pd (i := 8) rfl (by kernel_rfl) rfl rfl (det_extract rfl rfl) ?_
            refine JA_tail (i := 10) (by kernel_rfl) rfl rfl rfl rfl (jo_store rfl rfl rfl (by first | (simp only [splice_norm]; done) | (simp only [splice_norm]; rfl) | rfl) Try.sizeOf39 rfl rfl) fun _ => ?_
            refine JT_pd (i := 11) rfl (by kernel_rfl) rfl rfl (det_assign rfl) ?_
            refine JT_pd (i := 12) rfl (by kernel_rfl) rfl rfl (det_assign rfl) ?_
            refine JT_done (by kernel_rfl) ?_
            exact JE_cutF hK b7 trivial (stsub_cons rfl (stsub_cons rfl (stsub_cons rfl stsub_nil))) (ht_cons ht_nil)
          exact JAl_nil
        refine JAl_cons (i := 9) rfl rfl (jo_alloc0 Try.zeroValue39 rfl) (fun _ => ⟨hsub_drop 1 rfl, fun _ h => h⟩) (fun b7 => ?_) ?_
        · refine JA_one (i := 1) (by kernel_rfl) rfl rfl (jo_call rfl rfl Try.call19 rfl (lLane_j l ha pa hc pc (by omega) (by omega))) (fun _ => ⟨hsub_drop 0 rfl, fun _ h => h.2⟩) fun x43 => ?_
          refine JA_one (i := 3) (by kernel_rfl) rfl rfl (jo_callv rfl rfl Try.call30 rfl (lPocket_j p)) (fun _ => ⟨hsub_refl, fun _ h => h⟩) fun _ => ?_
          refine JA_one (i := 4) (by kernel_rfl) rfl rfl (jo_callv rfl rfl Try.call31 rfl (Best_je l p x43.1.1 x43.2.1 x43.1.2 x43.2.2 he)) (fun _ => ⟨hsub_refl, fun _ h => h⟩) fun _ => ?_
          refine JA_pd (i := 5) rfl (by kernel_rfl) rfl rfl (det_move rfl) ?_
          refine JA_pd (i := 6) rfl (by kernel_rfl) rfl rfl (det_extract rfl rfl) ?_
          refine JA_pd (i := 7) rfl (by kernel_rfl) rfl rfl (det_extract rfl rfl) ?_
          refine JA_pd (i := 8) rfl (by kernel_rfl) rfl rfl (det_extract rfl rfl) ?_
          refine JA_tail (i := 10) (by kernel_rfl) rfl rfl rfl rfl (jo_store rfl rfl rfl (by first | (simp only [splice_norm]; done) | (simp only [splice_norm]; rfl) | rfl) Try.sizeOf39 rfl rfl) fun _ => ?_
          refine JT_pd (i := 11) rfl (by kernel_rfl) rfl rfl (det_assign rfl) ?_
          refine JT_pd (i := 12) rfl (by kernel_rfl) rfl rfl (det_assign rfl) ?_
          refine JT_done (by kernel_rfl) ?_
          exact JE_cutF hK b7 trivial (stsub_cons rfl (stsub_cons rfl (stsub_cons rfl stsub_nil))) (ht_cons ht_nil)
        exact JAl_nil
      dsimp only [List.cons_append, List.nil_append]
      refine JC_seq ?_
      refine JC_region ?_
      refine JL_dt rfl (det_loadKA rfl Try.isAgg25 Try.sizeOf25 rfl rfl) ?_
      refine JL_step rfl rfl rfl (jo_callv rfl rfl Try.call32 rfl (lfault_j l ha pa hc pc)) fun _ => ?_
      refine JL_pd rfl (det_assign rfl) ?_
      refine JL_nil ?_
      refine JE_seq ?_
      refine JC_seq ?_
      refine JC_seq ?_
      refine JC_region ?_
      refine JL_pd rfl (det_move rfl) ?_
      refine JL_pd rfl (det_eql rfl rfl) ?_
      refine JL_pd rfl (det_move rfl) ?_
      -- stop: guard 2
      by_cases hf : fault l = 0
      · have hp : isPocket p = false := by
          cases h : isPocket p
          · rfl
          · simp [aimsErr, hf, h] at he
        have he2 : aimsErr l p = 2 := by simp [aimsErr, hf, hp]
        rw [he2]
        refine JL_is (d0 := 54) true rfl (by exact decide_eq_true hf) (fun g1 => ?_)
        refine JL_guard rfl rfl g1 ?_
        refine JL_dt rfl (det_loadKA rfl Try.isAgg57 Try.sizeOf57 rfl rfl) ?_
        refine JL_guard rfl rfl g1 ?_
        refine JL_step rfl rfl rfl (jo_callv rfl rfl Try.call33 rfl (rIsPocket_j p)) fun _ => ?_
        refine JL_guard rfl rfl g1 ?_
        refine JL_pd rfl (det_not rfl) ?_
        refine JL_pd rfl (det_pick_t rfl g1 rfl) ?_
        refine JL_nil ?_
        refine JE_seq ?_
        -- stop: cond
        rw [hp]
        refine JC_cond rfl (fun h2 => ?_) (fun h2 => ?_)
        · refine JC_region ?_
          refine JL_pd rfl (det_assign rfl) ?_
          refine JL_nil ?_
          refine JE_seq ?_
          refine JC_seq ?_
          refine JC_seq ?_
          refine JC_region ?_
          refine JL_pd rfl (det_move rfl) ?_
          refine JL_pd rfl (det_neq rfl rfl) ?_
          refine JL_nil ?_
          refine JE_seq ?_
          -- stop: cond
          refine JC_ifn rfl (fun h3 => ?_) (fun h3 => ?_)
          · refine JC_seq ?_
            refine JC_region ?_
            refine JL_pd rfl (det_move rfl) ?_
            refine JL_pd rfl (det_move rfl) ?_
            refine JL_pd rfl (det_eql rfl rfl) ?_
            refine JL_pd rfl (det_move rfl) ?_
            -- stop: guard 3
            refine JL_join1 22 4 (.bool true) (fun hj => ?_) ?_
            · refine JL_split (d0 := 64) rfl (fun q12 => ?_) (fun q12 => ?_)
              · refine JL_guard rfl rfl q12 ?_
                refine JL_pd rfl (det_move rfl) ?_
                refine JL_guard rfl rfl q12 ?_
                refine JL_pd rfl (det_move rfl) ?_
                refine JL_guard rfl rfl q12 ?_
                refine JL_pd rfl (det_eql rfl rfl) ?_
                refine JL_pd rfl (det_pick_t rfl q12 rfl) ?_
                refine JL_pd rfl (det_move rfl) ?_
                refine JL_split (d0 := 69) rfl (fun q13 => ?_) (fun q13 => ?_)
                · refine JL_guard rfl rfl q13 ?_
                  refine JL_pd rfl (det_move rfl) ?_
                  refine JL_guard rfl rfl q13 ?_
                  refine JL_pd rfl (det_len rfl Try.runUnderlying30) ?_
                  refine JL_guard rfl rfl q13 ?_
                  refine JL_pd rfl (det_eql rfl rfl) ?_
                  refine JL_pd rfl (det_pick_t rfl q13 rfl) ?_
                  refine JL_pd rfl (det_move rfl) ?_
                  refine JL_split (d0 := 74) rfl (fun q14 => ?_) (fun q14 => ?_)
                  · refine JL_guard rfl rfl q14 ?_
                    refine JL_dt rfl (det_loadKA rfl Try.isAgg39 Try.sizeOf39 rfl rfl) ?_
                    refine JL_guard rfl rfl q14 ?_
                    refine JL_pd rfl (det_build rfl (bld_39)) ?_
                    refine JL_guard rfl rfl q14 ?_
                    refine JL_pd rfl (det_eqlA rfl rfl egt_39 (eqa_39 _ _ _ _)) ?_
                    refine JL_pd rfl (det_pick_t rfl q14 rfl) ?_
                    refine JL_pd rfl (det_move rfl) ?_
                    refine JL_split (d0 := 79) rfl (fun q15 => ?_) (fun q15 => ?_)
                    · refine JL_guard rfl rfl q15 ?_
                      refine JL_pd rfl (det_move rfl) ?_
                      refine JL_guard rfl rfl q15 ?_
                      refine JL_pd rfl (det_eql rfl rfl) ?_
                      refine JL_pd rfl (det_pick_t rfl q15 rfl) ?_
                      refine JL_pd rfl (det_move rfl) ?_
                      refine JL_split (d0 := 83) rfl (fun q16 => ?_) (fun q16 => ?_)
                      · refine JL_guard rfl rfl q16 ?_
                        refine JL_step rfl rfl rfl (jo_callv rfl rfl Try.call17 rfl (lawake_j)) fun _ => ?_
                        refine JL_pd rfl (det_pick_t rfl q16 rfl) ?_
                        refine JL_pd rfl (det_assign rfl) ?_
                        exact hj (by kernel_rfl) (stsub_consB rfl (by clear hj; first | rfl | (simp only [q12, q13, q14, q15, q16, Bool.and_true, Bool.true_and, Bool.false_and, Bool.and_false, Bool.or_true, Bool.true_or, Bool.or_false, Bool.false_or, Bool.not_true, Bool.not_false]; done) | (simp [q12, q13, q14, q15, q16]; done) | (simp at q12; done) | (simp at q13; done) | (simp at q14; done) | (simp at q15; done) | (simp at q16; done) | (simp [q12, q13, q14, q15, q16] <;> omega) | (exfalso; simp at q12 q13 q14 q15 q16; omega) | (simp [q13, q14, q15, q16] at q12; done) | (simp [q12, q14, q15, q16] at q13; done) | (simp [q12, q13, q15, q16] at q14; done) | (simp [q12, q13, q14, q16] at q15; done) | (simp [q12, q13, q14, q15] at q16; done)) stsub_nil)
                      · refine JL_skip rfl rfl q16 rfl ?_
                        refine JL_pd rfl (det_pick_f rfl q16 rfl) ?_
                        refine JL_pd rfl (det_assign rfl) ?_
                        exact hj (by kernel_rfl) (stsub_consB rfl (by clear hj; first | rfl | (simp only [q12, q13, q14, q15, q16, Bool.and_true, Bool.true_and, Bool.false_and, Bool.and_false, Bool.or_true, Bool.true_or, Bool.or_false, Bool.false_or, Bool.not_true, Bool.not_false]; done) | (simp [q12, q13, q14, q15, q16]; done) | (simp at q12; done) | (simp at q13; done) | (simp at q14; done) | (simp at q15; done) | (simp at q16; done) | (simp [q12, q13, q14, q15, q16] <;> omega) | (exfalso; simp at q12 q13 q14 q15 q16; omega) | (simp [q13, q14, q15, q16] at q12; done) | (simp [q12, q14, q15, q16] at q13; done) | (simp [q12, q13, q15, q16] at q14; done) | (simp [q12, q13, q14, q16] at q15; done) | (simp [q12, q13, q14, q15] at q16; done)) stsub_nil)
                    · refine JL_skip rfl rfl q15 rfl ?_
                      refine JL_skip rfl rfl q15 rfl ?_
                      refine JL_pd rfl (det_pick_f rfl q15 rfl) ?_
                      refine JL_pd rfl (det_move rfl) ?_
                      refine JL_skip rfl rfl rfl rfl ?_
                      refine JL_pd rfl (det_pick_f rfl rfl rfl) ?_
                      refine JL_pd rfl (det_assign rfl) ?_
                      exact hj (by kernel_rfl) (stsub_consB rfl (by clear hj; first | rfl | (simp only [q12, q13, q14, q15, Bool.and_true, Bool.true_and, Bool.false_and, Bool.and_false, Bool.or_true, Bool.true_or, Bool.or_false, Bool.false_or, Bool.not_true, Bool.not_false]; done) | (simp [q12, q13, q14, q15]; done) | (simp at q12; done) | (simp at q13; done) | (simp at q14; done) | (simp at q15; done) | (simp [q12, q13, q14, q15] <;> omega) | (exfalso; simp at q12 q13 q14 q15; omega) | (simp [q13, q14, q15] at q12; done) | (simp [q12, q14, q15] at q13; done) | (simp [q12, q13, q15] at q14; done) | (simp [q12, q13, q14] at q15; done)) stsub_nil)
                  · refine JL_skip rfl rfl q14 rfl ?_
                    refine JL_skip rfl rfl q14 rfl ?_
                    refine JL_skip rfl rfl q14 rfl ?_
                    refine JL_pd rfl (det_pick_f rfl q14 rfl) ?_
                    refine JL_pd rfl (det_move rfl) ?_
                    refine JL_skip rfl rfl rfl rfl ?_
                    refine JL_skip rfl rfl rfl rfl ?_
                    refine JL_pd rfl (det_pick_f rfl rfl rfl) ?_
                    refine JL_pd rfl (det_move rfl) ?_
                    refine JL_skip rfl rfl rfl rfl ?_
                    refine JL_pd rfl (det_pick_f rfl rfl rfl) ?_
                    refine JL_pd rfl (det_assign rfl) ?_
                    exact hj (by kernel_rfl) (stsub_consB rfl (by clear hj; first | rfl | (simp only [q12, q13, q14, Bool.and_true, Bool.true_and, Bool.false_and, Bool.and_false, Bool.or_true, Bool.true_or, Bool.or_false, Bool.false_or, Bool.not_true, Bool.not_false]; done) | (simp [q12, q13, q14]; done) | (simp at q12; done) | (simp at q13; done) | (simp at q14; done) | (simp [q12, q13, q14] <;> omega) | (exfalso; simp at q12 q13 q14; omega) | (simp [q13, q14] at q12; done) | (simp [q12, q14] at q13; done) | (simp [q12, q13] at q14; done)) stsub_nil)
                · refine JL_skip rfl rfl q13 rfl ?_
                  refine JL_skip rfl rfl q13 rfl ?_
                  refine JL_skip rfl rfl q13 rfl ?_
                  refine JL_pd rfl (det_pick_f rfl q13 rfl) ?_
                  refine JL_pd rfl (det_move rfl) ?_
                  refine JL_skip rfl rfl rfl rfl ?_
                  refine JL_skip rfl rfl rfl rfl ?_
                  refine JL_skip rfl rfl rfl rfl ?_
                  refine JL_pd rfl (det_pick_f rfl rfl rfl) ?_
                  refine JL_pd rfl (det_move rfl) ?_
                  refine JL_skip rfl rfl rfl rfl ?_
                  refine JL_skip rfl rfl rfl rfl ?_
                  refine JL_pd rfl (det_pick_f rfl rfl rfl) ?_
                  refine JL_pd rfl (det_move rfl) ?_
                  refine JL_skip rfl rfl rfl rfl ?_
                  refine JL_pd rfl (det_pick_f rfl rfl rfl) ?_
                  refine JL_pd rfl (det_assign rfl) ?_
                  exact hj (by kernel_rfl) (stsub_consB rfl (by clear hj; first | rfl | (simp only [q12, q13, Bool.and_true, Bool.true_and, Bool.false_and, Bool.and_false, Bool.or_true, Bool.true_or, Bool.or_false, Bool.false_or, Bool.not_true, Bool.not_false]; done) | (simp [q12, q13]; done) | (simp at q12; done) | (simp at q13; done) | (simp [q12, q13] <;> omega) | (exfalso; simp at q12 q13; omega) | (simp [q13] at q12; done) | (simp [q12] at q13; done)) stsub_nil)
              · refine JL_skip rfl rfl q12 rfl ?_
                refine JL_skip rfl rfl q12 rfl ?_
                refine JL_skip rfl rfl q12 rfl ?_
                refine JL_pd rfl (det_pick_f rfl q12 rfl) ?_
                refine JL_pd rfl (det_move rfl) ?_
                refine JL_skip rfl rfl rfl rfl ?_
                refine JL_skip rfl rfl rfl rfl ?_
                refine JL_skip rfl rfl rfl rfl ?_
                refine JL_pd rfl (det_pick_f rfl rfl rfl) ?_
                refine JL_pd rfl (det_move rfl) ?_
                refine JL_skip rfl rfl rfl rfl ?_
                refine JL_skip rfl rfl rfl rfl ?_
                refine JL_skip rfl rfl rfl rfl ?_
                refine JL_pd rfl (det_pick_f rfl rfl rfl) ?_
                refine JL_pd rfl (det_move rfl) ?_
                refine JL_skip rfl rfl rfl rfl ?_
                refine JL_skip rfl rfl rfl rfl ?_
                refine JL_pd rfl (det_pick_f rfl rfl rfl) ?_
                refine JL_pd rfl (det_move rfl) ?_
                refine JL_skip rfl rfl rfl rfl ?_
                refine JL_pd rfl (det_pick_f rfl rfl rfl) ?_
                refine JL_pd rfl (det_assign rfl) ?_
                exact hj (by kernel_rfl) (stsub_consB rfl (by clear hj; first | rfl | (simp only [q12, Bool.and_true, Bool.true_and, Bool.false_and, Bool.and_false, Bool.or_true, Bool.true_or, Bool.or_false, Bool.false_or, Bool.not_true, Bool.not_false]; done) | (simp [q12]; done) | (simp at q12; done) | (simp [q12] <;> omega) | (exfalso; simp at q12; omega)) stsub_nil)
            refine JL_nil ?_
            refine JE_seq ?_
            refine JC_ret ?_
            refine JE_seq_ret ?_
            -- stop: out
            refine JE_out (.inl rfl) () (results1 Try.results5 (res_tmp rfl)) rfl (List.Perm.refl _) (fun _ _ => trivial)
          · cases h3
        · cases h2
      · have he2 : aimsErr l p = fault l := by simp [aimsErr, hf]
        rw [he2]
        refine JL_is (d0 := 54) false rfl (by exact decide_eq_false hf) (fun g1 => ?_)
        refine JL_skip rfl rfl g1 rfl ?_
        refine JL_skip rfl rfl g1 rfl ?_
        refine JL_skip rfl rfl g1 rfl ?_
        refine JL_pd rfl (det_pick_f rfl g1 rfl) ?_
        refine JL_nil ?_
        refine JE_seq ?_
        refine JC_condF rfl rfl ?_
        refine JC_skip ?_
        refine JE_seq ?_
        refine JC_seq ?_
        refine JC_seq ?_
        refine JC_region ?_
        refine JL_pd rfl (det_move rfl) ?_
        refine JL_pd rfl (det_neq rfl rfl) ?_
        refine JL_nil ?_
        refine JE_seq ?_
        -- stop: cond
        refine JC_ifn rfl (fun h3 => ?_) (fun h3 => ?_)
        · refine JC_seq ?_
          refine JC_region ?_
          refine JL_pd rfl (det_move rfl) ?_
          refine JL_pd rfl (det_move rfl) ?_
          refine JL_pd rfl (det_eql rfl rfl) ?_
          refine JL_pd rfl (det_move rfl) ?_
          -- stop: guard 3
          refine JL_join1 22 4 (.bool true) (fun hj => ?_) ?_
          · refine JL_split (d0 := 64) rfl (fun q17 => ?_) (fun q17 => ?_)
            · refine JL_guard rfl rfl q17 ?_
              refine JL_pd rfl (det_move rfl) ?_
              refine JL_guard rfl rfl q17 ?_
              refine JL_pd rfl (det_move rfl) ?_
              refine JL_guard rfl rfl q17 ?_
              refine JL_pd rfl (det_eql rfl rfl) ?_
              refine JL_pd rfl (det_pick_t rfl q17 rfl) ?_
              refine JL_pd rfl (det_move rfl) ?_
              refine JL_split (d0 := 69) rfl (fun q18 => ?_) (fun q18 => ?_)
              · refine JL_guard rfl rfl q18 ?_
                refine JL_pd rfl (det_move rfl) ?_
                refine JL_guard rfl rfl q18 ?_
                refine JL_pd rfl (det_len rfl Try.runUnderlying30) ?_
                refine JL_guard rfl rfl q18 ?_
                refine JL_pd rfl (det_eql rfl rfl) ?_
                refine JL_pd rfl (det_pick_t rfl q18 rfl) ?_
                refine JL_pd rfl (det_move rfl) ?_
                refine JL_split (d0 := 74) rfl (fun q19 => ?_) (fun q19 => ?_)
                · refine JL_guard rfl rfl q19 ?_
                  refine JL_dt rfl (det_loadKA rfl Try.isAgg39 Try.sizeOf39 rfl rfl) ?_
                  refine JL_guard rfl rfl q19 ?_
                  refine JL_pd rfl (det_build rfl (bld_39)) ?_
                  refine JL_guard rfl rfl q19 ?_
                  refine JL_pd rfl (det_eqlA rfl rfl egt_39 (eqa_39 _ _ _ _)) ?_
                  refine JL_pd rfl (det_pick_t rfl q19 rfl) ?_
                  refine JL_pd rfl (det_move rfl) ?_
                  refine JL_split (d0 := 79) rfl (fun q20 => ?_) (fun q20 => ?_)
                  · refine JL_guard rfl rfl q20 ?_
                    refine JL_pd rfl (det_move rfl) ?_
                    refine JL_guard rfl rfl q20 ?_
                    refine JL_pd rfl (det_eql rfl rfl) ?_
                    refine JL_pd rfl (det_pick_t rfl q20 rfl) ?_
                    refine JL_pd rfl (det_move rfl) ?_
                    refine JL_split (d0 := 83) rfl (fun q21 => ?_) (fun q21 => ?_)
                    · refine JL_guard rfl rfl q21 ?_
                      refine JL_step rfl rfl rfl (jo_callv rfl rfl Try.call17 rfl (lawake_j)) fun _ => ?_
                      refine JL_pd rfl (det_pick_t rfl q21 rfl) ?_
                      refine JL_pd rfl (det_assign rfl) ?_
                      exact hj (by kernel_rfl) (stsub_consB rfl (by clear hj; first | rfl | (simp only [q17, q18, q19, q20, q21, Bool.and_true, Bool.true_and, Bool.false_and, Bool.and_false, Bool.or_true, Bool.true_or, Bool.or_false, Bool.false_or, Bool.not_true, Bool.not_false]; done) | (simp [q17, q18, q19, q20, q21]; done) | (simp at q17; done) | (simp at q18; done) | (simp at q19; done) | (simp at q20; done) | (simp at q21; done) | (simp [q17, q18, q19, q20, q21] <;> omega) | (exfalso; simp at q17 q18 q19 q20 q21; omega) | (simp [q18, q19, q20, q21] at q17; done) | (simp [q17, q19, q20, q21] at q18; done) | (simp [q17, q18, q20, q21] at q19; done) | (simp [q17, q18, q19, q21] at q20; done) | (simp [q17, q18, q19, q20] at q21; done)) stsub_nil)
                    · refine JL_skip rfl rfl q21 rfl ?_
                      refine JL_pd rfl (det_pick_f rfl q21 rfl) ?_
                      refine JL_pd rfl (det_assign rfl) ?_
                      exact hj (by kernel_rfl) (stsub_consB rfl (by clear hj; first | rfl | (simp only [q17, q18, q19, q20, q21, Bool.and_true, Bool.true_and, Bool.false_and, Bool.and_false, Bool.or_true, Bool.true_or, Bool.or_false, Bool.false_or, Bool.not_true, Bool.not_false]; done) | (simp [q17, q18, q19, q20, q21]; done) | (simp at q17; done) | (simp at q18; done) | (simp at q19; done) | (simp at q20; done) | (simp at q21; done) | (simp [q17, q18, q19, q20, q21] <;> omega) | (exfalso; simp at q17 q18 q19 q20 q21; omega) | (simp [q18, q19, q20, q21] at q17; done) | (simp [q17, q19, q20, q21] at q18; done) | (simp [q17, q18, q20, q21] at q19; done) | (simp [q17, q18, q19, q21] at q20; done) | (simp [q17, q18, q19, q20] at q21; done)) stsub_nil)
                  · refine JL_skip rfl rfl q20 rfl ?_
                    refine JL_skip rfl rfl q20 rfl ?_
                    refine JL_pd rfl (det_pick_f rfl q20 rfl) ?_
                    refine JL_pd rfl (det_move rfl) ?_
                    refine JL_skip rfl rfl rfl rfl ?_
                    refine JL_pd rfl (det_pick_f rfl rfl rfl) ?_
                    refine JL_pd rfl (det_assign rfl) ?_
                    exact hj (by kernel_rfl) (stsub_consB rfl (by clear hj; first | rfl | (simp only [q17, q18, q19, q20, Bool.and_true, Bool.true_and, Bool.false_and, Bool.and_false, Bool.or_true, Bool.true_or, Bool.or_false, Bool.false_or, Bool.not_true, Bool.not_false]; done) | (simp [q17, q18, q19, q20]; done) | (simp at q17; done) | (simp at q18; done) | (simp at q19; done) | (simp at q20; done) | (simp [q17, q18, q19, q20] <;> omega) | (exfalso; simp at q17 q18 q19 q20; omega) | (simp [q18, q19, q20] at q17; done) | (simp [q17, q19, q20] at q18; done) | (simp [q17, q18, q20] at q19; done) | (simp [q17, q18, q19] at q20; done)) stsub_nil)
                · refine JL_skip rfl rfl q19 rfl ?_
                  refine JL_skip rfl rfl q19 rfl ?_
                  refine JL_skip rfl rfl q19 rfl ?_
                  refine JL_pd rfl (det_pick_f rfl q19 rfl) ?_
                  refine JL_pd rfl (det_move rfl) ?_
                  refine JL_skip rfl rfl rfl rfl ?_
                  refine JL_skip rfl rfl rfl rfl ?_
                  refine JL_pd rfl (det_pick_f rfl rfl rfl) ?_
                  refine JL_pd rfl (det_move rfl) ?_
                  refine JL_skip rfl rfl rfl rfl ?_
                  refine JL_pd rfl (det_pick_f rfl rfl rfl) ?_
                  refine JL_pd rfl (det_assign rfl) ?_
                  exact hj (by kernel_rfl) (stsub_consB rfl (by clear hj; first | rfl | (simp only [q17, q18, q19, Bool.and_true, Bool.true_and, Bool.false_and, Bool.and_false, Bool.or_true, Bool.true_or, Bool.or_false, Bool.false_or, Bool.not_true, Bool.not_false]; done) | (simp [q17, q18, q19]; done) | (simp at q17; done) | (simp at q18; done) | (simp at q19; done) | (simp [q17, q18, q19] <;> omega) | (exfalso; simp at q17 q18 q19; omega) | (simp [q18, q19] at q17; done) | (simp [q17, q19] at q18; done) | (simp [q17, q18] at q19; done)) stsub_nil)
              · refine JL_skip rfl rfl q18 rfl ?_
                refine JL_skip rfl rfl q18 rfl ?_
                refine JL_skip rfl rfl q18 rfl ?_
                refine JL_pd rfl (det_pick_f rfl q18 rfl) ?_
                refine JL_pd rfl (det_move rfl) ?_
                refine JL_skip rfl rfl rfl rfl ?_
                refine JL_skip rfl rfl rfl rfl ?_
                refine JL_skip rfl rfl rfl rfl ?_
                refine JL_pd rfl (det_pick_f rfl rfl rfl) ?_
                refine JL_pd rfl (det_move rfl) ?_
                refine JL_skip rfl rfl rfl rfl ?_
                refine JL_skip rfl rfl rfl rfl ?_
                refine JL_pd rfl (det_pick_f rfl rfl rfl) ?_
                refine JL_pd rfl (det_move rfl) ?_
                refine JL_skip rfl rfl rfl rfl ?_
                refine JL_pd rfl (det_pick_f rfl rfl rfl) ?_
                refine JL_pd rfl (det_assign rfl) ?_
                exact hj (by kernel_rfl) (stsub_consB rfl (by clear hj; first | rfl | (simp only [q17, q18, Bool.and_true, Bool.true_and, Bool.false_and, Bool.and_false, Bool.or_true, Bool.true_or, Bool.or_false, Bool.false_or, Bool.not_true, Bool.not_false]; done) | (simp [q17, q18]; done) | (simp at q17; done) | (simp at q18; done) | (simp [q17, q18] <;> omega) | (exfalso; simp at q17 q18; omega) | (simp [q18] at q17; done) | (simp [q17] at q18; done)) stsub_nil)
            · refine JL_skip rfl rfl q17 rfl ?_
              refine JL_skip rfl rfl q17 rfl ?_
              refine JL_skip rfl rfl q17 rfl ?_
              refine JL_pd rfl (det_pick_f rfl q17 rfl) ?_
              refine JL_pd rfl (det_move rfl) ?_
              refine JL_skip rfl rfl rfl rfl ?_
              refine JL_skip rfl rfl rfl rfl ?_
              refine JL_skip rfl rfl rfl rfl ?_
              refine JL_pd rfl (det_pick_f rfl rfl rfl) ?_
              refine JL_pd rfl (det_move rfl) ?_
              refine JL_skip rfl rfl rfl rfl ?_
              refine JL_skip rfl rfl rfl rfl ?_
              refine JL_skip rfl rfl rfl rfl ?_
              refine JL_pd rfl (det_pick_f rfl rfl rfl) ?_
              refine JL_pd rfl (det_move rfl) ?_
              refine JL_skip rfl rfl rfl rfl ?_
              refine JL_skip rfl rfl rfl rfl ?_
              refine JL_pd rfl (det_pick_f rfl rfl rfl) ?_
              refine JL_pd rfl (det_move rfl) ?_
              refine JL_skip rfl rfl rfl rfl ?_
              refine JL_pd rfl (det_pick_f rfl rfl rfl) ?_
              refine JL_pd rfl (det_assign rfl) ?_
              exact hj (by kernel_rfl) (stsub_consB rfl (by clear hj; first | rfl | (simp only [q17, Bool.and_true, Bool.true_and, Bool.false_and, Bool.and_false, Bool.or_true, Bool.true_or, Bool.or_false, Bool.false_or, Bool.not_true, Bool.not_false]; done) | (simp [q17]; done) | (simp at q17; done) | (simp [q17] <;> omega) | (exfalso; simp at q17; omega)) stsub_nil)
          refine JL_nil ?_
          refine JE_seq ?_
          refine JC_ret ?_
          refine JE_seq_ret ?_
          -- stop: out
          refine JE_out (.inl rfl) () (results1 Try.results5 (res_tmp rfl)) rfl (List.Perm.refl _) (fun _ _ => trivial)
        · exact absurd h3 hf
end Go.Proofs.Ytcfhbnfincpehaa

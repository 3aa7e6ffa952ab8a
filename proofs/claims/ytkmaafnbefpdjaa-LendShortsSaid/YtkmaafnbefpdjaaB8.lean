/- Own texts, laid together: E15 E16 E17. Nothing is asked. -/
import Derived.Test.YtkmaafnbefpdjaaB7
import Derived.Test.YtkmaafnbefpdjaaB3
set_option linter.unusedSimpArgs false
set_option linter.unusedVariables false
/- Walks of the laws and the reference of lend: copies, what is thin, what is valid. -/
namespace Go.Proofs.Ytkmaafnbefpdjaa
open Go.RowKit Go.Shelf

theorem snoc_len {α : Type} {l : List α} {i : Nat} (h : i < l.length) : (l.take i).length + 1 = (l.take (i + 1)).length := by rw [take_snoc h, List.length_append]; rfl
theorem snoc_flat {α : Type} (e : α → List Value) {l : List α} {i : Nat} (h : i < l.length) : (l.take i).flatMap e ++ e l[i] = (l.take (i + 1)).flatMap e := by rw [take_snoc h, List.flatMap_append, List.flatMap_cons, List.flatMap_nil, List.append_nil]
theorem encI_one (y : Int) : (encI y).all (·.oneCell') = true := rfl
theorem all_snoc {α : Type} {p : α → Bool} {l : List α} {i : Nat} (h : i < l.length) (h1 : (l.take i).all p = true) (h2 : p l[i] = true) : (l.take (i + 1)).all p = true := by
  rw [take_snoc h, List.all_append, h1]; simp [h2]
theorem all_no {α : Type} {p : α → Bool} {l : List α} {i : Nat} (h : i < l.length) (h2 : p l[i] = false) : l.all p = false := by
  cases ha : l.all p
  · rfl
  · have := List.all_eq_true.1 ha _ (List.getElem_mem h); rw [h2] at this; cases this
theorem lList_j (xs : List Int) (a : Option Addr) (cap : Nat) (hx : xs.length ≤ 1000000) : Cr Try.prog 23 [.slice a xs.length cap] (KSl a xs.length cap encI xs) (fun q : Option Addr × Nat => .slice q.1 xs.length q.2) (fun q => KSl q.1 xs.length q.2 encI xs) := by
  refine Cx_of Try.func23 rfl Try.ntmps23 rfl fun w0 M0 => ?_
  refine JC_seq ?_
  refine JC_region ?_
  refine JL_pd rfl (det_assign rfl) ?_
  refine JL_nil ?_
  refine JE_seq ?_
  refine JC_seq ?_
  refine JC_region ?_
  refine JL_pd rfl (det_move rfl) ?_
  -- stop: op  1 t4 := (call (Call (builtin append) ((slice none 0 0) t3) (22 22)))   <0>   11
  refine JL_nilS 3 1 ?_
  refine JL_step rfl rfl rfl (jo_appendK (e := encI) el_22 rfl rfl encI_one (by simpa using hx)) fun v => ?_
  refine JL_pd rfl (det_assign rfl) ?_
  refine JL_nil ?_
  refine JE_seq ?_
  refine JC_ret ?_
  -- stop: out
  refine JE_slice (enc := encI) (v := v) xs noFp (by simp) (by simp) ?_
  rintro a' cap' h
  subst h
  simp only [Nat.zero_add]
  refine JE_out (.inl rfl) (a', cap') (results1 Try.results23 (res_tmp rfl)) rfl (List.Perm.refl _) (fun w h => h.1)
set_option maxRecDepth 100000 in
theorem lHouse_j (x : Hx) (hx : x.h.shoes.length ≤ 1000000) : Cr Try.prog 19 [.agg #[I x.h.lanes, .slice x.a x.h.shoes.length x.c]] (KHx x) (fun q : Option Addr × Nat => .agg #[I x.h.lanes, .slice q.1 x.h.shoes.length q.2]) (fun q => KHx ⟨x.h, q.1, q.2⟩) := by
  refine Cx_of Try.func19 rfl Try.ntmps19 rfl fun w0 M0 => ?_
  refine JC_seq ?_
  refine JC_region ?_
  refine JL_step rfl rfl rfl (jo_box rfl rfl) fun b1 => ?_
  refine JL_step rfl rfl rfl (jo_alloc0 Try.zeroValue30 rfl) fun b2 => ?_
  refine JL_nil ?_
  refine JE_seq ?_
  refine JC_seq ?_
  -- stop: draw
  refine JC_keep b1 noFp ?_
  refine JC_cutK (γ := Option Addr × Nat) (fun _ => True) (fun x7 => [(2, pt b2)]) (fun x7 => [bx b2 [I x.h.lanes, .slice x7.1 x.h.shoes.length x7.2]]) (fun x7 => KSl x7.1 x.h.shoes.length x7.2 encI x.h.shoes) [] (fun K hK => ?_) (fun x7 _ => ?_)
  · refine JC_draw [6] (by kernel_rfl) ?_
    refine JA_pd (i := 0) rfl (by kernel_rfl) rfl rfl (det_fieldAddr rfl fo_24_0) ?_
    refine JA_dt (i := 1) rfl (by kernel_rfl) (by kernel_rfl) rfl rfl (det_loadK rfl Try.isAgg3 rfl) ?_
    refine JA_pd (i := 2) rfl (by kernel_rfl) rfl rfl (det_fieldAddr rfl fo_24_1) ?_
    refine JA_dt (i := 3) rfl (by kernel_rfl) (by kernel_rfl) rfl rfl (det_loadK rfl Try.isAgg22 rfl) ?_
    refine JA_one (i := 4) (by kernel_rfl) rfl rfl (jo_call rfl rfl Try.call23 rfl (lList_j x.h.shoes x.a x.c hx)) (fun _ => ⟨hsub_drop 0 rfl, fun _ h => h.2⟩) fun x7 => ?_
    refine JA_pd (i := 5) rfl (by kernel_rfl) rfl rfl (det_build rfl (bld_30_0_1 _ _ _ _)) ?_
    refine JA_tail (i := 6) (by kernel_rfl) rfl rfl rfl rfl (jo_store rfl rfl rfl (by first | (simp only [splice_norm]; done) | (simp only [splice_norm]; rfl) | rfl) Try.sizeOf30 rfl rfl) fun _ => ?_
    refine JT_done (by kernel_rfl) ?_
    exact JE_cutK hK x7 trivial (stsub_cons rfl stsub_nil) (ht_bx rfl ht_nil)
  dsimp only [List.cons_append, List.nil_append]
  refine JC_ret ?_
  -- stop: out
  refine JE_out (.inl rfl) x7 (results1 Try.results19 (res_box rfl Try.isAgg30 Try.sizeOf30 rfl)) rfl (List.Perm.refl _) (fun w h => h.1)
theorem KFt_snoc {ys : List Gx} {y : Gx} {w : World} (h : KFt ys w) (h2 : KSl y.a y.g.feet.length y.c encI y.g.feet w) : KFt (ys ++ [y]) w := fun x hx => by
  rcases List.mem_append.1 hx with hx | hx
  · exact h x hx
  · rw [List.mem_singleton.1 hx]; exact h2
set_option maxRecDepth 100000 in
theorem lGroups_j (a : Option Addr) (c : Nat) (xs : List Gx) (hn : xs.length ≤ 1000) (hf : ∀ x ∈ xs, x.g.feet.length ≤ 1000) : Cr Try.prog 20 [.slice a xs.length c] (KGs a c xs) (fun q : Option Addr × Nat × { ys : List Gx // gs ys = gs xs } => .slice q.1 q.2.2.1.length q.2.1) (fun q => KGs q.1 q.2.1 q.2.2.1) := by
  refine Cx_of Try.func20 rfl Try.ntmps20 rfl fun w0 M0 => ?_
  refine JC_seq ?_
  refine JC_region ?_
  refine JL_pd rfl (det_assign rfl) ?_
  refine JL_nil ?_
  refine JE_seq ?_
  refine JC_seq ?_
  refine JC_region ?_
  refine JL_pd rfl (det_assign rfl) ?_
  refine JL_nil ?_
  refine JE_seq ?_
  refine JC_seq ?_
  refine JC_seq ?_
  refine JC_region ?_
  refine JL_pd rfl (det_assign rfl) ?_
  refine JL_nil ?_
  refine JE_seq ?_
  refine JC_block ?_
  -- stop: loop
  refine JC_nil 81 4 ?_
  refine JC_loopK (γ := Nat × Value × List Gx) (fun q => q.1 ≤ xs.length ∧ gs q.2.2 = (gs xs).take q.1) (fun q => [(4, I q.1), (3, q.2.1)]) (fun q => [ow q.2.1 81 4 q.2.2.length (q.2.2.flatMap encG)]) (fun q => KFt q.2.2) (fun q => xs.length - q.1) (0, .slice none 0 0, []) ⟨Nat.zero_le _, rfl⟩ (stsub_consI rfl rfl (stsub_cons rfl stsub_nil)) (ht_ow rfl rfl ht_nil) (fun w _ => by intro x hx; cases hx) ?_
  rintro ⟨i, v, ys⟩ ⟨hi, hg⟩ K hK
  dsimp only [List.cons_append, List.nil_append] at hi hg ⊢
  have hyl : ys.length = i := by
    have := congrArg List.length hg
    simp only [gs, List.length_map, List.length_take] at this; omega
  refine JC_seq ?_
  refine JC_seq ?_
  refine JC_region ?_
  refine JL_pd rfl (det_move rfl) ?_
  refine JL_pd rfl (det_move rfl) ?_
  refine JL_pd rfl (det_len rfl Try.runUnderlying25) ?_
  refine JL_pd rfl (det_lss rfl rfl) ?_
  refine JL_nil ?_
  refine JE_seq ?_
  -- stop: cond
  refine JC_if rfl (fun h1 => ?_) (fun h1 => ?_)
  · have hi2 : i < xs.length := by omega
    have hfi := hf _ (List.getElem_mem hi2)
    refine JC_know (R' := KAnd (KSl xs[i].a xs[i].g.feet.length xs[i].c encI xs[i].g.feet) _) (fun w h => ⟨h.2.2 _ (List.getElem_mem hi2), h⟩) ?_
    refine JC_skip ?_
    refine JE_seq ?_
    refine JC_seq ?_
    refine JC_block ?_
    refine JC_draw [27] (by kernel_rfl) ?_
    refine JA_pd (i := 0) rfl (by kernel_rfl) rfl rfl (det_move rfl) ?_
    refine JA_pd (i := 1) rfl (by kernel_rfl) rfl rfl (det_move rfl) ?_
    refine JA_pd (i := 2) rfl (by kernel_rfl) rfl rfl (det_move rfl) ?_
    refine JA_dt (i := 3) rfl (by kernel_rfl) (by kernel_rfl) rfl rfl (det_indexAddr rfl rfl (by first | rfl | omega) (by first | assumption | omega | decide) Try.runUnderlying25 Try.sizeOf55) ?_
    refine JA_pd (i := 4) rfl (by kernel_rfl) rfl rfl (det_fieldAddrE rfl fo_55_0) ?_
    refine JA_dt (i := 5) rfl (by kernel_rfl) (by kernel_rfl) rfl rfl (det_loadEk rfl (by first | assumption | omega | decide) Try.isAgg3 rfl rfl) ?_
    refine JA_pd (i := 6) rfl (by kernel_rfl) rfl rfl (det_move rfl) ?_
    refine JA_pd (i := 7) rfl (by kernel_rfl) rfl rfl (det_move rfl) ?_
    refine JA_dt (i := 8) rfl (by kernel_rfl) (by kernel_rfl) rfl rfl (det_indexAddr rfl rfl (by first | rfl | omega) (by first | assumption | omega | decide) Try.runUnderlying25 Try.sizeOf55) ?_
    refine JA_pd (i := 9) rfl (by kernel_rfl) rfl rfl (det_fieldAddrE rfl fo_55_1) ?_
    refine JA_pd (i := 10) rfl (by kernel_rfl) rfl rfl (det_fieldAddrEk (k2 := 1) rfl fo_53_0 rfl) ?_
    refine JA_dt (i := 11) rfl (by kernel_rfl) (by kernel_rfl) rfl rfl (det_loadEk rfl (by first | assumption | omega | decide) Try.isAgg3 rfl rfl) ?_
    refine JA_pd (i := 12) rfl (by kernel_rfl) rfl rfl (det_move rfl) ?_
    refine JA_pd (i := 13) rfl (by kernel_rfl) rfl rfl (det_move rfl) ?_
    refine JA_dt (i := 14) rfl (by kernel_rfl) (by kernel_rfl) rfl rfl (det_indexAddr rfl rfl (by first | rfl | omega) (by first | assumption | omega | decide) Try.runUnderlying25 Try.sizeOf55) ?_
    refine JA_pd (i := 15) rfl (by kernel_rfl) rfl rfl (det_fieldAddrE rfl fo_55_1) ?_
    refine JA_pd (i := 16) rfl (by kernel_rfl) rfl rfl (det_fieldAddrEk (k2 := 2) rfl fo_53_1 rfl) ?_
    refine JA_dt (i := 17) rfl (by kernel_rfl) (by kernel_rfl) rfl rfl (det_loadEk rfl (by first | assumption | omega | decide) Try.isAgg3 rfl rfl) ?_
    refine JA_pd (i := 18) rfl (by kernel_rfl) rfl rfl (det_build rfl (bld_79_0_1 _ _)) ?_
    refine JA_pd (i := 19) rfl (by kernel_rfl) rfl rfl (det_move rfl) ?_
    refine JA_pd (i := 20) rfl (by kernel_rfl) rfl rfl (det_move rfl) ?_
    refine JA_dt (i := 21) rfl (by kernel_rfl) (by kernel_rfl) rfl rfl (det_indexAddr rfl rfl (by first | rfl | omega) (by first | assumption | omega | decide) Try.runUnderlying25 Try.sizeOf55) ?_
    refine JA_pd (i := 22) rfl (by kernel_rfl) rfl rfl (det_fieldAddrE rfl fo_55_2) ?_
    refine JA_dt (i := 23) rfl (by kernel_rfl) (by kernel_rfl) rfl rfl (det_loadEk rfl (by first | assumption | omega | decide) Try.isAgg22 rfl rfl) ?_
    refine JA_one (i := 24) (by kernel_rfl) rfl rfl (jo_call rfl rfl Try.call23 rfl (lList_j xs[i].g.feet xs[i].a xs[i].c (by omega))) (fun _ => ⟨hsub_drop 0 rfl, fun _ h => h.2⟩) fun x35 => ?_
    refine JA_pd (i := 25) rfl (by kernel_rfl) rfl rfl (det_build rfl (bld_81_0_1_2 _ _ _ _ _ _)) ?_
    refine JA_one (i := 26) (by kernel_rfl) rfl rfl (jo_buildSlice rfl (bsl_32_1_0 _ _ _ _ _ _)) (fun _ => ⟨hsub_drop 1 rfl, fun _ h => h⟩) fun b37 => ?_
    refine JA_tail (i := 27) (by kernel_rfl) rfl rfl rfl rfl (jo_append el_32 rfl rfl rfl rfl (by omega)) fun b38 => ?_
    refine JT_pd (i := 28) rfl (by kernel_rfl) rfl rfl (det_assign rfl) ?_
    refine JT_done (by kernel_rfl) ?_
    refine JE_block ?_
    refine JE_seq ?_
    refine JC_region ?_
    refine JL_pd rfl (det_move rfl) ?_
    refine JL_pd rfl (det_add rfl rfl ⟨by omega, by omega⟩) ?_
    refine JL_pd rfl (det_assign rfl) ?_
    refine JL_nil ?_
    -- stop: end
    refine JE_weak (R' := KAnd (KFt (ys ++ [(⟨xs[i].g, x35.1, x35.2⟩ : Gx)])) _) stsub_refl hsub_refl (fun w h => ⟨KFt_snoc (Knows.know w h) (Knows.know w h), h⟩) ?_
    refine JE_roundF hK (i + 1, .slice (some ⟨b38.1, 0, none⟩) (ys.length + 1) b38.2, ys ++ [(⟨xs[i].g, x35.1, x35.2⟩ : Gx)]) ⟨by simp only; omega, ?_⟩ (by simp only; omega) (stsub_consI rfl (by simp only; omega) (stsub_cons rfl stsub_nil)) (ht_ow (by simp) (by simp [encG]) ht_nil)
    simp only
    rw [take_snoc (by simp [gs]; omega), ← hg]
    simp [gs]
  · obtain rfl : i = xs.length := by omega
    rw [List.take_of_length_le (by simp [gs])] at hg
    refine JC_slice (enc := encG) (v := v) ys noFp rfl rfl ?_
    rintro av cv rfl
    refine JC_exit ?_
    refine JE_seq_exit ?_
    refine JE_then_exit ?_
    refine JE_block_here ?_
    refine JE_seq ?_
    refine JC_seq ?_
    refine JC_region ?_
    refine JL_pd rfl (det_move rfl) ?_
    refine JL_pd rfl (det_assign rfl) ?_
    refine JL_nil ?_
    refine JE_seq ?_
    refine JC_ret ?_
    -- stop: out
    refine JE_out (.inl rfl) (av, cv, ⟨ys, hg⟩) (results1 Try.results20 (res_tmp rfl)) rfl (List.Perm.refl _) (fun w h => ⟨h.1, h.2.1⟩)
def thinB (h : Hs) (l : List Gr) : Bool := ((l.take 13).all fun g => decide (g.feet.length ≤ 10)) && (decide (h.shoes.length ≤ 14) && decide (l.length ≤ 12))
theorem thin_lens {h : Hs} {l : List Gr} (q : thinB h l = true) : h.shoes.length ≤ 14 ∧ l.length ≤ 12 ∧ ∀ g ∈ l, g.feet.length ≤ 10 := by
  unfold thinB at q
  simp only [Bool.and_eq_true, decide_eq_true_eq] at q
  refine ⟨q.2.1, q.2.2, fun g hg => ?_⟩
  rw [List.take_of_length_le (by omega)] at q
  exact of_decide_eq_true (List.all_eq_true.1 q.1 g hg)
set_option maxRecDepth 100000 in
theorem Thin_j (x : Hx) (a : Option Addr) (c : Nat) (xs : List Gx) : Cv Try.prog 16 [.agg #[I x.h.lanes, .slice x.a x.h.shoes.length x.c], .slice a xs.length c] (KSl a xs.length c encG xs) (.bool (thinB x.h (gs xs))) := by
  have hgl : (gs xs).length = xs.length := List.length_map _
  have hall : ((gs xs).take 13).all (fun g => decide (g.feet.length ≤ 10)) = (xs.take 13).all fun y => decide (y.g.feet.length ≤ 10) := by
    rw [gs, ← List.map_take, List.all_map]; rfl
  refine Cx_of Try.func16 rfl Try.ntmps16 rfl fun w0 M0 => ?_
  refine JC_seq ?_
  refine JC_region ?_
  refine JL_step rfl rfl rfl (jo_box rfl rfl) fun b2 => ?_
  refine JL_pd rfl (det_assign rfl) ?_
  refine JL_nil ?_
  refine JE_seq ?_
  refine JC_seq ?_
  refine JC_seq ?_
  refine JC_region ?_
  refine JL_pd rfl (det_assign rfl) ?_
  refine JL_nil ?_
  refine JE_seq ?_
  refine JC_block ?_
  -- stop: loop
  refine JC_loopF (γ := Nat) (fun i => i ≤ xs.length ∧ i ≤ 13 ∧ (xs.take i).all (fun y => decide (y.g.feet.length ≤ 10)) = true) (fun i => [(5, I i)]) (fun _ => []) (fun i => xs.length - i) 0 ⟨Nat.zero_le _, Nat.zero_le _, rfl⟩ (stsub_consI rfl rfl stsub_nil) ht_nil ?_
  rintro i ⟨hi, hi13, hal⟩ K hK
  dsimp only [List.cons_append, List.nil_append]
  refine JC_seq ?_
  refine JC_seq ?_
  refine JC_region ?_
  refine JL_pd rfl (det_move rfl) ?_
  refine JL_pd rfl (det_move rfl) ?_
  refine JL_pd rfl (det_len rfl Try.runUnderlying25) ?_
  refine JL_pd rfl (det_lss rfl rfl) ?_
  refine JL_pd rfl (det_move rfl) ?_
  -- stop: guard 4
  refine JL_join1 3 13 (.bool (decide ((i : Int) < (xs.length : Int)) && decide ((i : Int) < 13))) (fun hj => ?_) ?_
  · refine JL_split (d0 := 10) rfl (fun q1 => ?_) (fun q1 => ?_)
    · refine JL_guard rfl rfl q1 ?_
      refine JL_pd rfl (det_move rfl) ?_
      refine JL_guard rfl rfl q1 ?_
      refine JL_pd rfl (det_lss rfl rfl) ?_
      refine JL_pd rfl (det_pick_t rfl q1 rfl) ?_
      exact hj (by kernel_rfl) (stsub_consB rfl (by clear hj; first | rfl | (simp only [q1, Bool.and_true, Bool.true_and, Bool.false_and, Bool.and_false, Bool.or_true, Bool.true_or, Bool.or_false, Bool.false_or, Bool.not_true, Bool.not_false]; done) | (simp [q1]; done) | (simp at q1; done) | (simp [q1] <;> omega) | (exfalso; simp at q1; omega)) stsub_nil)
    · refine JL_skip rfl rfl q1 rfl ?_
      refine JL_skip rfl rfl q1 rfl ?_
      refine JL_pd rfl (det_pick_f rfl q1 rfl) ?_
      exact hj (by kernel_rfl) (stsub_consB rfl (by clear hj; first | rfl | (simp only [q1, Bool.and_true, Bool.true_and, Bool.false_and, Bool.and_false, Bool.or_true, Bool.true_or, Bool.or_false, Bool.false_or, Bool.not_true, Bool.not_false]; done) | (simp [q1]; done) | (simp at q1; done) | (simp [q1] <;> omega) | (exfalso; simp at q1; omega)) stsub_nil)
  refine JL_nil ?_
  refine JE_seq ?_
  -- stop: cond
  refine JC_cond rfl (fun h1 => ?_) (fun h1 => ?_)
  · have h1' : i < xs.length ∧ i < 13 := by simp at h1; omega
    have hi2 := h1'.1
    have hi3 := h1'.2
    refine JC_skip ?_
    refine JE_seq ?_
    refine JC_seq ?_
    refine JC_block ?_
    refine JC_seq ?_
    refine JC_region ?_
    refine JL_pd rfl (det_move rfl) ?_
    refine JL_pd rfl (det_move rfl) ?_
    refine JL_dt rfl (det_indexAddr rfl rfl (by first | rfl | omega) (by first | assumption | omega | decide) Try.runUnderlying25 Try.sizeOf55) ?_
    refine JL_pd rfl (det_fieldAddrE rfl fo_55_2) ?_
    refine JL_dt rfl (det_loadEk rfl (by first | assumption | omega | decide) Try.isAgg22 rfl rfl) ?_
    refine JL_pd rfl (det_len rfl Try.runUnderlying22) ?_
    refine JL_pd rfl (det_gtr rfl rfl) ?_
    refine JL_nil ?_
    refine JE_seq ?_
    -- stop: cond
    refine JC_if rfl (fun h2 => ?_) (fun h2 => ?_)
    · refine JC_seq ?_
      refine JC_region ?_
      refine JL_pd rfl (det_assign rfl) ?_
      refine JL_nil ?_
      refine JE_seq ?_
      refine JC_ret ?_
      refine JE_block_ret ?_
      refine JE_seq_ret ?_
      refine JE_then_ret ?_
      refine JE_block_ret ?_
      refine JE_seq_ret ?_
      -- stop: out
      refine JE_out (.inl rfl) () (results1 Try.results16 (res_tmp rfl)) (by unfold thinB; rw [hall, all_no (i := i) (by rw [List.length_take]; omega) (by rw [List.getElem_take]; exact decide_eq_false (by omega)), Bool.false_and]) (List.Perm.refl _) (fun _ _ => trivial)
    · refine JC_skip ?_
      refine JE_block ?_
      refine JE_seq ?_
      refine JC_region ?_
      refine JL_pd rfl (det_move rfl) ?_
      refine JL_pd rfl (det_add rfl rfl ⟨by omega, by omega⟩) ?_
      refine JL_pd rfl (det_assign rfl) ?_
      refine JL_nil ?_
      -- stop: end
      refine JE_roundF hK (i + 1) ⟨by omega, by omega, all_snoc hi2 hal (decide_eq_true (by omega))⟩ (by omega) (stsub_consI rfl (by omega) stsub_nil) ht_nil
  · have h1' : ¬ (i < xs.length ∧ i < 13) := by rintro ⟨q1, q2⟩; simp at h1; have := h1 q1; omega
    have hal2 : (xs.take 13).all (fun y => decide (y.g.feet.length ≤ 10)) = true := by
      by_cases e : i = xs.length
      · rw [List.take_of_length_le (by omega)]; rwa [List.take_of_length_le (by omega)] at hal
      · obtain rfl : i = 13 := by omega
        exact hal
    refine JC_exit ?_
    refine JE_seq_exit ?_
    refine JE_then_exit ?_
    refine JE_block_here ?_
    refine JE_seq ?_
    refine JC_seq ?_
    refine JC_region ?_
    refine JL_pd rfl (det_fieldAddr rfl fo_24_1) ?_
    refine JL_dt rfl (det_loadK rfl Try.isAgg22 rfl) ?_
    refine JL_pd rfl (det_len rfl Try.runUnderlying22) ?_
    refine JL_pd rfl (det_leq rfl rfl) ?_
    refine JL_pd rfl (det_move rfl) ?_
    -- stop: guard 4
    refine JL_join1 5 4 (.bool (decide ((x.h.shoes.length : Int) ≤ 14) && decide ((xs.length : Int) ≤ 12))) (fun hj => ?_) ?_
    · refine JL_split (d0 := 27) rfl (fun q2 => ?_) (fun q2 => ?_)
      · refine JL_guard rfl rfl q2 ?_
        refine JL_pd rfl (det_move rfl) ?_
        refine JL_guard rfl rfl q2 ?_
        refine JL_pd rfl (det_len rfl Try.runUnderlying25) ?_
        refine JL_guard rfl rfl q2 ?_
        refine JL_pd rfl (det_leq rfl rfl) ?_
        refine JL_pd rfl (det_pick_t rfl q2 rfl) ?_
        refine JL_pd rfl (det_assign rfl) ?_
        exact hj (by kernel_rfl) (stsub_consB rfl (by clear hj; first | rfl | (simp only [q2, Bool.and_true, Bool.true_and, Bool.false_and, Bool.and_false, Bool.or_true, Bool.true_or, Bool.or_false, Bool.false_or, Bool.not_true, Bool.not_false]; done) | (simp [q2]; done) | (simp at q2; done) | (simp [q2] <;> omega) | (exfalso; simp at q2; omega)) stsub_nil)
      · refine JL_skip rfl rfl q2 rfl ?_
        refine JL_skip rfl rfl q2 rfl ?_
        refine JL_skip rfl rfl q2 rfl ?_
        refine JL_pd rfl (det_pick_f rfl q2 rfl) ?_
        refine JL_pd rfl (det_assign rfl) ?_
        exact hj (by kernel_rfl) (stsub_consB rfl (by clear hj; first | rfl | (simp only [q2, Bool.and_true, Bool.true_and, Bool.false_and, Bool.and_false, Bool.or_true, Bool.true_or, Bool.or_false, Bool.false_or, Bool.not_true, Bool.not_false]; done) | (simp [q2]; done) | (simp at q2; done) | (simp [q2] <;> omega) | (exfalso; simp at q2; omega)) stsub_nil)
    refine JL_nil ?_
    refine JE_seq ?_
    refine JC_ret ?_
    -- stop: out
    refine JE_out (.inl rfl) () (results1 Try.results16 (res_tmp rfl)) (by unfold thinB; rw [hall, hal2, hgl, Bool.true_and, show decide ((x.h.shoes.length : Int) ≤ 14) = decide (x.h.shoes.length ≤ 14) from decide_eq_decide.2 (by omega), show decide ((xs.length : Int) ≤ 12) = decide (xs.length ≤ 12) from decide_eq_decide.2 (by omega)]) (List.Perm.refl _) (fun _ _ => trivial)
theorem In_j (n lo hi : Int) : Cv Try.prog 31 [I n, I lo, I hi] KTrue (.bool (inI n lo hi)) := by
  refine Cx_of Try.func31 rfl Try.ntmps31 rfl fun w0 M0 => ?_
  refine JC_seq ?_
  refine JC_region ?_
  refine JL_pd rfl (det_assign rfl) ?_
  refine JL_nil ?_
  refine JE_seq ?_
  refine JC_seq ?_
  refine JC_region ?_
  refine JL_pd rfl (det_move rfl) ?_
  refine JL_pd rfl (det_move rfl) ?_
  refine JL_pd rfl (det_geq rfl rfl) ?_
  refine JL_pd rfl (det_move rfl) ?_
  refine JL_split (d0 := 10) rfl (fun h1 => ?_) (fun h1 => ?_)
  · refine JL_guard rfl rfl h1 ?_
    refine JL_pd rfl (det_move rfl) ?_
    refine JL_guard rfl rfl h1 ?_
    refine JL_pd rfl (det_move rfl) ?_
    refine JL_guard rfl rfl h1 ?_
    refine JL_pd rfl (det_leq rfl rfl) ?_
    refine JL_pd rfl (det_pick_t rfl h1 rfl) ?_
    refine JL_pd rfl (det_assign rfl) ?_
    refine JL_nil ?_
    refine JE_seq ?_
    refine JC_ret ?_
    refine JE_out (.inl rfl) () (results1 Try.results31 (res_tmp rfl)) ?_ (List.Perm.refl _) (fun _ _ => trivial)
    (simp_all [inI])
    (try omega)
  · refine JL_skip rfl rfl h1 rfl ?_
    refine JL_skip rfl rfl h1 rfl ?_
    refine JL_skip rfl rfl h1 rfl ?_
    refine JL_pd rfl (det_pick_f rfl h1 rfl) ?_
    refine JL_pd rfl (det_assign rfl) ?_
    refine JL_nil ?_
    refine JE_seq ?_
    refine JC_ret ?_
    refine JE_out (.inl rfl) () (results1 Try.results31 (res_tmp rfl)) ?_ (List.Perm.refl _) (fun _ _ => trivial)
    (simp_all [inI])
    (try omega)
set_option maxRecDepth 100000 in
theorem IsHouse_j (x : Hx) : Cv Try.prog 71 [.agg #[I x.h.lanes, .slice x.a x.h.shoes.length x.c]] (KHx x) (.bool (hsOk x.h)) := by
  refine Cx_of Try.func71 rfl Try.ntmps71 rfl fun w0 M0 => ?_
  refine JC_seq ?_
  refine JC_region ?_
  refine JL_step rfl rfl rfl (jo_box rfl rfl) fun b1 => ?_
  refine JL_pd rfl (det_assign rfl) ?_
  refine JL_nil ?_
  refine JE_seq ?_
  refine JC_seq ?_
  refine JC_seq ?_
  refine JC_region ?_
  refine JL_pd rfl (det_assign rfl) ?_
  refine JL_nil ?_
  refine JE_seq ?_
  refine JC_block ?_
  -- stop: loop
  refine JC_pure (p := x.h.shoes.length ≤ 9223372036854775807) (by intro w h; exact h.1.bd) fun hz => ?_
  refine JC_loopF (γ := Nat) (fun i => i ≤ x.h.shoes.length ∧ (x.h.shoes.take i).all (fun n => inI n 0 20) = true) (fun i => [(3, I i)]) (fun _ => []) (fun i => x.h.shoes.length - i) 0 ⟨Nat.zero_le _, rfl⟩ (stsub_consI rfl rfl stsub_nil) ht_nil ?_
  rintro i ⟨hi, hal⟩ K hK
  dsimp only [List.cons_append, List.nil_append]
  refine JC_seq ?_
  refine JC_seq ?_
  refine JC_region ?_
  refine JL_pd rfl (det_move rfl) ?_
  refine JL_pd rfl (det_fieldAddr rfl fo_24_1) ?_
  refine JL_dt rfl (det_loadK rfl Try.isAgg22 rfl) ?_
  refine JL_pd rfl (det_len rfl Try.runUnderlying22) ?_
  refine JL_pd rfl (det_lss rfl rfl) ?_
  refine JL_nil ?_
  refine JE_seq ?_
  -- stop: cond
  refine JC_if rfl (fun h1 => ?_) (fun h1 => ?_)
  · have hi2 : i < x.h.shoes.length := by omega
    refine JC_skip ?_
    refine JE_seq ?_
    refine JC_seq ?_
    refine JC_block ?_
    refine JC_seq ?_
    refine JC_region ?_
    refine JL_pd rfl (det_fieldAddr rfl fo_24_1) ?_
    refine JL_dt rfl (det_loadK rfl Try.isAgg22 rfl) ?_
    refine JL_pd rfl (det_move rfl) ?_
    refine JL_dt rfl (det_indexAddr rfl rfl (by first | rfl | omega) (by first | assumption | omega | decide) Try.runUnderlying22 Try.sizeOf3) ?_
    refine JL_dt rfl (det_loadE rfl (by first | assumption | omega | decide) Try.isAgg3 rfl rfl) ?_
    refine JL_step rfl rfl rfl (jo_callv rfl rfl Try.call31 rfl (In_j _ _ _)) fun _ => ?_
    refine JL_pd rfl (det_not rfl) ?_
    refine JL_nil ?_
    refine JE_seq ?_
    -- stop: cond
    refine JC_cond rfl (fun h2 => ?_) (fun h2 => ?_)
    · refine JC_seq ?_
      refine JC_region ?_
      refine JL_pd rfl (det_assign rfl) ?_
      refine JL_nil ?_
      refine JE_seq ?_
      refine JC_ret ?_
      refine JE_block_ret ?_
      refine JE_seq_ret ?_
      refine JE_then_ret ?_
      refine JE_block_ret ?_
      refine JE_seq_ret ?_
      -- stop: out
      refine JE_out (.inl rfl) () (results1 Try.results71 (res_tmp rfl)) (by rw [eqHs, all_no (p := fun n => inI n 0 20) hi2 (by simpa using h2)]; simp) (List.Perm.refl _) (fun _ _ => trivial)
    · refine JC_skip ?_
      refine JE_block ?_
      refine JE_seq ?_
      refine JC_region ?_
      refine JL_pd rfl (det_move rfl) ?_
      refine JL_pd rfl (det_add rfl rfl ⟨by omega, by omega⟩) ?_
      refine JL_pd rfl (det_assign rfl) ?_
      refine JL_nil ?_
      -- stop: end
      refine JE_roundF hK (i + 1) ⟨by omega, all_snoc (p := fun n => inI n 0 20) hi2 hal (by simpa using h2)⟩ (by omega) (stsub_consI rfl (by omega) stsub_nil) ht_nil
  · obtain rfl : i = x.h.shoes.length := by omega
    rw [List.take_length] at hal
    refine JC_exit ?_
    refine JE_seq_exit ?_
    refine JE_then_exit ?_
    refine JE_block_here ?_
    refine JE_seq ?_
    refine JC_seq ?_
    refine JC_region ?_
    refine JL_pd rfl (det_fieldAddr rfl fo_24_0) ?_
    refine JL_dt rfl (det_loadK rfl Try.isAgg3 rfl) ?_
    refine JL_step rfl rfl rfl (jo_callv rfl rfl Try.call31 rfl (In_j _ _ _)) fun _ => ?_
    refine JL_pd rfl (det_move rfl) ?_
    -- stop: guard 3
    refine JL_join1 6 2 (.bool (inI x.h.lanes 0 5 && decide ((x.h.shoes.length : Int) = 10))) (fun hj => ?_) ?_
    · refine JL_split (d0 := 21) rfl (fun q2 => ?_) (fun q2 => ?_)
      · refine JL_guard rfl rfl q2 ?_
        refine JL_pd rfl (det_fieldAddr rfl fo_24_1) ?_
        refine JL_guard rfl rfl q2 ?_
        refine JL_dt rfl (det_loadK rfl Try.isAgg22 rfl) ?_
        refine JL_guard rfl rfl q2 ?_
        refine JL_pd rfl (det_len rfl Try.runUnderlying22) ?_
        refine JL_guard rfl rfl q2 ?_
        refine JL_pd rfl (det_eql rfl rfl) ?_
        refine JL_pd rfl (det_pick_t rfl q2 rfl) ?_
        refine JL_pd rfl (det_assign rfl) ?_
        exact hj (by kernel_rfl) (stsub_consB rfl (by clear hj; first | rfl | (simp only [q2, Bool.and_true, Bool.true_and, Bool.false_and, Bool.and_false, Bool.or_true, Bool.true_or, Bool.or_false, Bool.false_or, Bool.not_true, Bool.not_false]; done) | (simp [q2]; done) | (simp at q2; done) | (simp [q2] <;> omega) | (exfalso; simp at q2; omega)) stsub_nil)
      · refine JL_skip rfl rfl q2 rfl ?_
        refine JL_skip rfl rfl q2 rfl ?_
        refine JL_skip rfl rfl q2 rfl ?_
        refine JL_skip rfl rfl q2 rfl ?_
        refine JL_pd rfl (det_pick_f rfl q2 rfl) ?_
        refine JL_pd rfl (det_assign rfl) ?_
        exact hj (by kernel_rfl) (stsub_consB rfl (by clear hj; first | rfl | (simp only [q2, Bool.and_true, Bool.true_and, Bool.false_and, Bool.and_false, Bool.or_true, Bool.true_or, Bool.or_false, Bool.false_or, Bool.not_true, Bool.not_false]; done) | (simp [q2]; done) | (simp at q2; done) | (simp [q2] <;> omega) | (exfalso; simp at q2; omega)) stsub_nil)
    refine JL_nil ?_
    refine JE_seq ?_
    refine JC_ret ?_
    -- stop: out
    refine JE_out (.inl rfl) () (results1 Try.results71 (res_tmp rfl)) (by rw [eqHs, hal, Bool.and_true, show decide ((x.h.shoes.length : Int) = 10) = decide (x.h.shoes.length = 10) from decide_eq_decide.2 (by omega)]) (List.Perm.refl _) (fun _ _ => trivial)
set_option maxRecDepth 100000 in
theorem Sized_j (a : Option Addr) (cap : Nat) (l : List Int) : Cv Try.prog 72 [.slice a l.length cap] (KSl a l.length cap encI l) (.bool (l.all fun n => inI n 0 9)) := by
  refine Cx_of Try.func72 rfl Try.ntmps72 rfl fun w0 M0 => ?_
  refine JC_seq ?_
  refine JC_region ?_
  refine JL_pd rfl (det_assign rfl) ?_
  refine JL_nil ?_
  refine JE_seq ?_
  refine JC_seq ?_
  refine JC_seq ?_
  refine JC_region ?_
  refine JL_pd rfl (det_assign rfl) ?_
  refine JL_nil ?_
  refine JE_seq ?_
  refine JC_block ?_
  -- stop: loop
  refine JC_pure (p := l.length ≤ 9223372036854775807) (by intro w h; exact h.1.bd) fun hz => ?_
  refine JC_loopF (γ := Nat) (fun i => i ≤ l.length ∧ (l.take i).all (fun n => inI n 0 9) = true) (fun i => [(3, I i)]) (fun _ => []) (fun i => l.length - i) 0 ⟨Nat.zero_le _, rfl⟩ (stsub_consI rfl rfl stsub_nil) ht_nil ?_
  rintro i ⟨hi, hal⟩ K hK
  dsimp only [List.cons_append, List.nil_append]
  refine JC_seq ?_
  refine JC_seq ?_
  refine JC_region ?_
  refine JL_pd rfl (det_move rfl) ?_
  refine JL_pd rfl (det_move rfl) ?_
  refine JL_pd rfl (det_len rfl Try.runUnderlying22) ?_
  refine JL_pd rfl (det_lss rfl rfl) ?_
  refine JL_nil ?_
  refine JE_seq ?_
  -- stop: cond
  refine JC_if rfl (fun h1 => ?_) (fun h1 => ?_)
  · have hi2 : i < l.length := by omega
    refine JC_skip ?_
    refine JE_seq ?_
    refine JC_seq ?_
    refine JC_block ?_
    refine JC_seq ?_
    refine JC_region ?_
    refine JL_pd rfl (det_move rfl) ?_
    refine JL_pd rfl (det_move rfl) ?_
    refine JL_dt rfl (det_indexAddr rfl rfl (by first | rfl | omega) (by first | assumption | omega | decide) Try.runUnderlying22 Try.sizeOf3) ?_
    refine JL_dt rfl (det_loadE rfl (by first | assumption | omega | decide) Try.isAgg3 rfl rfl) ?_
    refine JL_step rfl rfl rfl (jo_callv rfl rfl Try.call31 rfl (In_j _ _ _)) fun _ => ?_
    refine JL_pd rfl (det_not rfl) ?_
    refine JL_nil ?_
    refine JE_seq ?_
    -- stop: cond
    refine JC_cond rfl (fun h2 => ?_) (fun h2 => ?_)
    · refine JC_seq ?_
      refine JC_region ?_
      refine JL_pd rfl (det_assign rfl) ?_
      refine JL_nil ?_
      refine JE_seq ?_
      refine JC_ret ?_
      refine JE_block_ret ?_
      refine JE_seq_ret ?_
      refine JE_then_ret ?_
      refine JE_block_ret ?_
      refine JE_seq_ret ?_
      -- stop: out
      refine JE_out (.inl rfl) () (results1 Try.results72 (res_tmp rfl)) (by rw [all_no (p := fun n => inI n 0 9) hi2 (by simpa using h2)]) (List.Perm.refl _) (fun _ _ => trivial)
    · refine JC_skip ?_
      refine JE_block ?_
      refine JE_seq ?_
      refine JC_region ?_
      refine JL_pd rfl (det_move rfl) ?_
      refine JL_pd rfl (det_add rfl rfl ⟨by omega, by omega⟩) ?_
      refine JL_pd rfl (det_assign rfl) ?_
      refine JL_nil ?_
      -- stop: end
      refine JE_roundF hK (i + 1) ⟨by omega, all_snoc (p := fun n => inI n 0 9) hi2 hal (by simpa using h2)⟩ (by omega) (stsub_consI rfl (by omega) stsub_nil) ht_nil
  · obtain rfl : i = l.length := by omega
    rw [List.take_length] at hal
    refine JC_exit ?_
    refine JE_seq_exit ?_
    refine JE_then_exit ?_
    refine JE_block_here ?_
    refine JE_seq ?_
    refine JC_seq ?_
    refine JC_region ?_
    refine JL_pd rfl (det_assign rfl) ?_
    refine JL_nil ?_
    refine JE_seq ?_
    refine JC_ret ?_
    -- stop: out
    refine JE_out (.inl rfl) () (results1 Try.results72 (res_tmp rfl)) (by rw [hal]) (List.Perm.refl _) (fun _ _ => trivial)
theorem Stays_j (x : Gx) (t : Int) : Cv Try.prog 68 [.agg #[I x.g.fr, I x.g.lo, I x.g.hi, .slice x.a x.g.feet.length x.c], I t] KTrue (.bool (stays x.g t)) := by
  refine Cx_of Try.func68 rfl Try.ntmps68 rfl fun w0 M0 => ?_
  refine JC_seq ?_
  refine JC_region ?_
  refine JL_step rfl rfl rfl (jo_box rfl rfl) fun b2 => ?_
  refine JL_pd rfl (det_assign rfl) ?_
  refine JL_nil ?_
  refine JE_seq ?_
  refine JC_seq ?_
  refine JC_region ?_
  refine JL_pd rfl (det_move rfl) ?_
  refine JL_pd rfl (det_fieldAddr rfl fo_55_0) ?_
  refine JL_dt rfl (det_loadK rfl Try.isAgg3 rfl) ?_
  refine JL_pd rfl (det_fieldAddr rfl fo_55_1) ?_
  refine JL_pd rfl (det_fieldAddr rfl fo_53_1) ?_
  refine JL_dt rfl (det_loadK rfl Try.isAgg3 rfl) ?_
  refine JL_step rfl rfl rfl (jo_callv rfl rfl Try.call31 rfl (In_j _ _ _)) fun _ => ?_
  refine JL_pd rfl (det_assign rfl) ?_
  refine JL_nil ?_
  refine JE_seq ?_
  refine JC_ret ?_
  refine JE_out (.inl rfl) () (results1 Try.results68 (res_tmp rfl)) ?_ (List.Perm.refl _) (fun _ _ => trivial)
  rfl
theorem eqGr (g : Gr) : grOk g = (inI g.fr 0 30 && (decide (g.fr ≤ g.lo) && (decide (g.lo ≤ g.hi) && (inI g.hi 0 30 && g.feet.all fun n => inI n 0 9)))) := rfl
theorem grOk_r (g : Gr) : (!inI g.fr 0 30 || !inI g.lo g.fr g.hi || decide (30 < g.hi) || !(g.feet.all fun n => inI n 0 9)) = !grOk g := by
  rw [eqGr]
  rw [Bool.eq_iff_iff]
  simp only [inI, Bool.or_eq_true, Bool.not_eq_true', decide_eq_false_iff_not, decide_eq_true_eq, Bool.and_eq_false_iff]
  cases (g.feet.all fun n => decide (0 ≤ n ∧ n ≤ 9))
  · simp
  · simp; omega
set_option maxRecDepth 100000 in
set_option maxHeartbeats 1000000 in
theorem Fault_j (x : Hx) (a : Option Addr) (c : Nat) (xs : List Gx) : Cv Try.prog 67 [.agg #[I x.h.lanes, .slice x.a x.h.shoes.length x.c], .slice a xs.length c] (KAnd (KHx x) (KGs a c xs)) (I (fault x.h (gs xs))) := by
  have e1 : (gs xs).all few = xs.all fun x => few x.g := by simp [gs]; rfl
  have e2 : (gs xs).all grOk = xs.all fun x => grOk x.g := by simp [gs]; rfl
  have e3 : (gs xs).length = xs.length := List.length_map _
  have e4 : fault x.h (gs xs) = if hsOk x.h = false then 1 else if 8 < xs.length ∨ (xs.all fun x => few x.g) = false then 3 else if (xs.all fun x => grOk x.g) = false then 1 else 0 := by unfold fault; rw [e1, e2, e3]
  refine Cx_of Try.func67 rfl Try.ntmps67 rfl fun w0 M0 => ?_
  refine JC_seq ?_
  refine JC_region ?_
  refine JL_step rfl rfl rfl (jo_box rfl rfl) fun b2 => ?_
  refine JL_pd rfl (det_assign rfl) ?_
  refine JL_nil ?_
  refine JE_seq ?_
  refine JC_seq ?_
  refine JC_seq ?_
  refine JC_region ?_
  refine JL_dt rfl (det_loadKA rfl Try.isAgg24 Try.sizeOf24 rfl rfl) ?_
  refine JL_step rfl rfl rfl (jo_callv rfl rfl Try.call71 rfl (IsHouse_j x)) fun _ => ?_
  refine JL_pd rfl (det_not rfl) ?_
  refine JL_nil ?_
  refine JE_seq ?_
  -- stop: cond
  refine JC_cond rfl (fun h1 => ?_) (fun h1 => ?_)
  · refine JC_seq ?_
    refine JC_region ?_
    refine JL_pd rfl (det_assign rfl) ?_
    refine JL_nil ?_
    refine JE_seq ?_
    refine JC_ret ?_
    refine JE_seq_ret ?_
    -- stop: out
    refine JE_out (.inl rfl) () (results1 Try.results67 (res_tmp rfl)) (by rw [e4, if_pos (by simpa using h1)]) (List.Perm.refl _) (fun _ _ => trivial)
  · have h1' : ¬ hsOk x.h = false := by simpa using h1
    refine JC_skip ?_
    refine JE_seq ?_
    refine JC_seq ?_
    refine JC_seq ?_
    refine JC_region ?_
    refine JL_pd rfl (det_move rfl) ?_
    refine JL_pd rfl (det_len rfl Try.runUnderlying25) ?_
    refine JL_pd rfl (det_gtr rfl rfl) ?_
    refine JL_nil ?_
    refine JE_seq ?_
    -- stop: cond
    refine JC_if rfl (fun h2 => ?_) (fun h2 => ?_)
    · refine JC_seq ?_
      refine JC_region ?_
      refine JL_pd rfl (det_assign rfl) ?_
      refine JL_nil ?_
      refine JE_seq ?_
      refine JC_ret ?_
      refine JE_seq_ret ?_
      -- stop: out
      refine JE_out (.inl rfl) () (results1 Try.results67 (res_tmp rfl)) (by rw [e4, if_neg h1', if_pos (.inl (by omega))]) (List.Perm.refl _) (fun _ _ => trivial)
    · have hn : xs.length ≤ 8 := by omega
      refine JC_skip ?_
      refine JE_seq ?_
      refine JC_seq ?_
      refine JC_seq ?_
      refine JC_region ?_
      refine JL_pd rfl (det_assign rfl) ?_
      refine JL_nil ?_
      refine JE_seq ?_
      refine JC_block ?_
      -- stop: loop
      refine JC_loopF (γ := Nat) (fun i => i ≤ xs.length ∧ (xs.take i).all (fun y => few y.g) = true) (fun i => [(5, I i)]) (fun _ => []) (fun i => xs.length - i) 0 ⟨Nat.zero_le _, rfl⟩ (stsub_consI rfl rfl stsub_nil) ht_nil ?_
      rintro i ⟨hi, hal⟩ K hK
      dsimp only [List.cons_append, List.nil_append]
      refine JC_seq ?_
      refine JC_seq ?_
      refine JC_region ?_
      refine JL_pd rfl (det_move rfl) ?_
      refine JL_pd rfl (det_move rfl) ?_
      refine JL_pd rfl (det_len rfl Try.runUnderlying25) ?_
      refine JL_pd rfl (det_lss rfl rfl) ?_
      refine JL_nil ?_
      refine JE_seq ?_
      -- stop: cond
      refine JC_if rfl (fun h3 => ?_) (fun h3 => ?_)
      · have hi2 : i < xs.length := by omega
        refine JC_skip ?_
        refine JE_seq ?_
        refine JC_seq ?_
        refine JC_block ?_
        refine JC_seq ?_
        refine JC_region ?_
        refine JL_pd rfl (det_move rfl) ?_
        refine JL_pd rfl (det_move rfl) ?_
        refine JL_dt rfl (det_indexAddr rfl rfl (by first | rfl | omega) (by first | assumption | omega | decide) Try.runUnderlying25 Try.sizeOf55) ?_
        refine JL_pd rfl (det_fieldAddrE rfl fo_55_2) ?_
        refine JL_dt rfl (det_loadEk rfl (by first | assumption | omega | decide) Try.isAgg22 rfl rfl) ?_
        refine JL_pd rfl (det_len rfl Try.runUnderlying22) ?_
        refine JL_pd rfl (det_gtr rfl rfl) ?_
        refine JL_nil ?_
        refine JE_seq ?_
        -- stop: cond
        refine JC_if rfl (fun h4 => ?_) (fun h4 => ?_)
        · refine JC_seq ?_
          refine JC_region ?_
          refine JL_pd rfl (det_assign rfl) ?_
          refine JL_nil ?_
          refine JE_seq ?_
          refine JC_ret ?_
          refine JE_block_ret ?_
          refine JE_seq_ret ?_
          refine JE_then_ret ?_
          refine JE_block_ret ?_
          refine JE_seq_ret ?_
          -- stop: out
          refine JE_out (.inl rfl) () (results1 Try.results67 (res_tmp rfl)) (by rw [e4, if_neg h1', if_pos (.inr (all_no (p := fun y : Gx => few y.g) hi2 (decide_eq_false (by omega))))]) (List.Perm.refl _) (fun _ _ => trivial)
        · refine JC_skip ?_
          refine JE_block ?_
          refine JE_seq ?_
          refine JC_region ?_
          refine JL_pd rfl (det_move rfl) ?_
          refine JL_pd rfl (det_add rfl rfl ⟨by omega, by omega⟩) ?_
          refine JL_pd rfl (det_assign rfl) ?_
          refine JL_nil ?_
          -- stop: end
          refine JE_roundF hK (i + 1) ⟨by omega, all_snoc (p := fun y : Gx => few y.g) hi2 hal (decide_eq_true (by omega))⟩ (by omega) (stsub_consI rfl (by omega) stsub_nil) ht_nil
      · obtain rfl : i = xs.length := by omega
        rw [List.take_length] at hal
        have h5 : ¬ (8 < xs.length ∨ (xs.all fun y => few y.g) = false) := by rw [hal]; simp; omega
        refine JC_exit ?_
        refine JE_seq_exit ?_
        refine JE_then_exit ?_
        refine JE_block_here ?_
        refine JE_seq ?_
        refine JC_seq ?_
        refine JC_seq ?_
        refine JC_region ?_
        refine JL_pd rfl (det_assign rfl) ?_
        refine JL_nil ?_
        refine JE_seq ?_
        refine JC_block ?_
        -- stop: loop
        refine JC_loopF (γ := Nat) (fun i => i ≤ xs.length ∧ (xs.take i).all (fun y => grOk y.g) = true) (fun i => [(6, I i)]) (fun _ => []) (fun i => xs.length - i) 0 ⟨Nat.zero_le _, rfl⟩ (stsub_consI rfl rfl stsub_nil) ht_nil ?_
        rintro i ⟨hi, hgr⟩ K' hK'
        dsimp only [List.cons_append, List.nil_append]
        refine JC_seq ?_
        refine JC_seq ?_
        refine JC_region ?_
        refine JL_pd rfl (det_move rfl) ?_
        refine JL_pd rfl (det_move rfl) ?_
        refine JL_pd rfl (det_len rfl Try.runUnderlying25) ?_
        refine JL_pd rfl (det_lss rfl rfl) ?_
        refine JL_nil ?_
        refine JE_seq ?_
        -- stop: cond
        refine JC_if rfl (fun h6 => ?_) (fun h6 => ?_)
        · have hi2 : i < xs.length := by omega
          have hgk := grOk_r xs[i].g
          refine JC_know (R' := KAnd (KSl xs[i].a xs[i].g.feet.length xs[i].c encI xs[i].g.feet) _) (fun w h => ⟨(Knows.know (F := KFt xs) w h) _ (List.getElem_mem hi2), h⟩) ?_
          refine JC_skip ?_
          refine JE_seq ?_
          refine JC_seq ?_
          refine JC_block ?_
          refine JC_seq ?_
          refine JC_region ?_
          refine JL_pd rfl (det_move rfl) ?_
          refine JL_pd rfl (det_move rfl) ?_
          refine JL_dt rfl (det_indexAddr rfl rfl (by first | rfl | omega) (by first | assumption | omega | decide) Try.runUnderlying25 Try.sizeOf55) ?_
          refine JL_dt rfl (det_loadEA rfl (by first | assumption | omega | decide) Try.isAgg55 Try.sizeOf55 rfl rfl rfl) ?_
          refine JL_step rfl rfl rfl (jo_alloc0 Try.zeroValue55 rfl) fun b7 => ?_
          refine JL_step0 rfl rfl (jo_store rfl rfl rfl (by first | (simp only [splice_norm]; done) | (simp only [splice_norm]; rfl) | rfl) Try.sizeOf55 rfl rfl) fun _ => ?_
          refine JL_nil ?_
          refine JE_seq ?_
          refine JC_seq ?_
          refine JC_region ?_
          refine JL_pd rfl (det_fieldAddr rfl fo_55_0) ?_
          refine JL_dt rfl (det_loadK rfl Try.isAgg3 rfl) ?_
          refine JL_step rfl rfl rfl (jo_callv rfl rfl Try.call31 rfl (In_j _ _ _)) fun _ => ?_
          refine JL_pd rfl (det_not rfl) ?_
          refine JL_pd rfl (det_move rfl) ?_
          -- stop: guard 4
          refine JL_join1 23 64 (.bool (!inI xs[i].g.fr 0 30 || !inI xs[i].g.lo xs[i].g.fr xs[i].g.hi || decide (30 < xs[i].g.hi) || !(xs[i].g.feet.all fun n => inI n 0 9))) (fun hj => ?_) ?_
          · refine JL_split (d0 := 41) rfl (fun q1 => ?_) (fun q1 => ?_)
            · refine JL_skip rfl rfl q1 rfl ?_
              refine JL_skip rfl rfl q1 rfl ?_
              refine JL_skip rfl rfl q1 rfl ?_
              refine JL_skip rfl rfl q1 rfl ?_
              refine JL_skip rfl rfl q1 rfl ?_
              refine JL_skip rfl rfl q1 rfl ?_
              refine JL_skip rfl rfl q1 rfl ?_
              refine JL_skip rfl rfl q1 rfl ?_
              refine JL_skip rfl rfl q1 rfl ?_
              refine JL_skip rfl rfl q1 rfl ?_
              refine JL_pd rfl (det_pick_t rfl q1 rfl) ?_
              refine JL_pd rfl (det_move rfl) ?_
              refine JL_skip rfl rfl rfl rfl ?_
              refine JL_skip rfl rfl rfl rfl ?_
              refine JL_skip rfl rfl rfl rfl ?_
              refine JL_skip rfl rfl rfl rfl ?_
              refine JL_pd rfl (det_pick_t rfl rfl rfl) ?_
              refine JL_pd rfl (det_move rfl) ?_
              refine JL_skip rfl rfl rfl rfl ?_
              refine JL_skip rfl rfl rfl rfl ?_
              refine JL_skip rfl rfl rfl rfl ?_
              refine JL_skip rfl rfl rfl rfl ?_
              refine JL_pd rfl (det_pick_t rfl rfl rfl) ?_
              exact hj (by kernel_rfl) (stsub_consB rfl (by clear hj; first | rfl | (simp only [q1, Bool.and_true, Bool.true_and, Bool.false_and, Bool.and_false, Bool.or_true, Bool.true_or, Bool.or_false, Bool.false_or, Bool.not_true, Bool.not_false]; done) | (simp [q1]; done) | (simp at q1; done) | (simp [q1] <;> omega) | (exfalso; simp at q1; omega)) stsub_nil)
            · refine JL_guard rfl rfl q1 ?_
              refine JL_pd rfl (det_fieldAddr rfl fo_55_1) ?_
              refine JL_guard rfl rfl q1 ?_
              refine JL_pd rfl (det_fieldAddr rfl fo_53_0) ?_
              refine JL_guard rfl rfl q1 ?_
              refine JL_dt rfl (det_loadK rfl Try.isAgg3 rfl) ?_
              refine JL_guard rfl rfl q1 ?_
              refine JL_pd rfl (det_fieldAddr rfl fo_55_0) ?_
              refine JL_guard rfl rfl q1 ?_
              refine JL_dt rfl (det_loadK rfl Try.isAgg3 rfl) ?_
              refine JL_guard rfl rfl q1 ?_
              refine JL_pd rfl (det_fieldAddr rfl fo_55_1) ?_
              refine JL_guard rfl rfl q1 ?_
              refine JL_pd rfl (det_fieldAddr rfl fo_53_1) ?_
              refine JL_guard rfl rfl q1 ?_
              refine JL_dt rfl (det_loadK rfl Try.isAgg3 rfl) ?_
              refine JL_guard rfl rfl q1 ?_
              refine JL_step rfl rfl rfl (jo_callv rfl rfl Try.call31 rfl (In_j _ _ _)) fun _ => ?_
              refine JL_guard rfl rfl q1 ?_
              refine JL_pd rfl (det_not rfl) ?_
              refine JL_pd rfl (det_pick_f rfl q1 rfl) ?_
              refine JL_pd rfl (det_move rfl) ?_
              refine JL_split (d0 := 53) rfl (fun q2 => ?_) (fun q2 => ?_)
              · refine JL_skip rfl rfl q2 rfl ?_
                refine JL_skip rfl rfl q2 rfl ?_
                refine JL_skip rfl rfl q2 rfl ?_
                refine JL_skip rfl rfl q2 rfl ?_
                refine JL_pd rfl (det_pick_t rfl q2 rfl) ?_
                refine JL_pd rfl (det_move rfl) ?_
                refine JL_skip rfl rfl rfl rfl ?_
                refine JL_skip rfl rfl rfl rfl ?_
                refine JL_skip rfl rfl rfl rfl ?_
                refine JL_skip rfl rfl rfl rfl ?_
                refine JL_pd rfl (det_pick_t rfl rfl rfl) ?_
                exact hj (by kernel_rfl) (stsub_consB rfl (by clear hj; first | rfl | (simp only [q1, q2, Bool.and_true, Bool.true_and, Bool.false_and, Bool.and_false, Bool.or_true, Bool.true_or, Bool.or_false, Bool.false_or, Bool.not_true, Bool.not_false]; done) | (simp [q1, q2]; done) | (simp at q1; done) | (simp at q2; done) | (simp [q1, q2] <;> omega) | (exfalso; simp at q1 q2; omega) | (simp [q2] at q1; done) | (simp [q1] at q2; done)) stsub_nil)
              · refine JL_guard rfl rfl q2 ?_
                refine JL_pd rfl (det_fieldAddr rfl fo_55_1) ?_
                refine JL_guard rfl rfl q2 ?_
                refine JL_pd rfl (det_fieldAddr rfl fo_53_1) ?_
                refine JL_guard rfl rfl q2 ?_
                refine JL_dt rfl (det_loadK rfl Try.isAgg3 rfl) ?_
                refine JL_guard rfl rfl q2 ?_
                refine JL_pd rfl (det_gtr rfl rfl) ?_
                refine JL_pd rfl (det_pick_f rfl q2 rfl) ?_
                refine JL_pd rfl (det_move rfl) ?_
                refine JL_split (d0 := 59) rfl (fun q3 => ?_) (fun q3 => ?_)
                · refine JL_skip rfl rfl q3 rfl ?_
                  refine JL_skip rfl rfl q3 rfl ?_
                  refine JL_skip rfl rfl q3 rfl ?_
                  refine JL_skip rfl rfl q3 rfl ?_
                  refine JL_pd rfl (det_pick_t rfl q3 rfl) ?_
                  exact hj (by kernel_rfl) (stsub_consB rfl (by clear hj; first | rfl | (simp only [q1, q2, q3, Bool.and_true, Bool.true_and, Bool.false_and, Bool.and_false, Bool.or_true, Bool.true_or, Bool.or_false, Bool.false_or, Bool.not_true, Bool.not_false]; done) | (simp [q1, q2, q3]; done) | (simp at q1; done) | (simp at q2; done) | (simp at q3; done) | (simp [q1, q2, q3] <;> omega) | (exfalso; simp at q1 q2 q3; omega) | (simp [q2, q3] at q1; done) | (simp [q1, q3] at q2; done) | (simp [q1, q2] at q3; done)) stsub_nil)
                · refine JL_guard rfl rfl q3 ?_
                  refine JL_pd rfl (det_fieldAddr rfl fo_55_2) ?_
                  refine JL_guard rfl rfl q3 ?_
                  refine JL_dt rfl (det_loadK rfl Try.isAgg22 rfl) ?_
                  refine JL_guard rfl rfl q3 ?_
                  refine JL_step rfl rfl rfl (jo_callv rfl rfl Try.call72 rfl (Sized_j xs[i].a xs[i].c xs[i].g.feet)) fun _ => ?_
                  refine JL_guard rfl rfl q3 ?_
                  refine JL_pd rfl (det_not rfl) ?_
                  refine JL_pd rfl (det_pick_f rfl q3 rfl) ?_
                  exact hj (by kernel_rfl) (stsub_consB rfl (by clear hj; first | rfl | (simp only [q1, q2, q3, Bool.and_true, Bool.true_and, Bool.false_and, Bool.and_false, Bool.or_true, Bool.true_or, Bool.or_false, Bool.false_or, Bool.not_true, Bool.not_false]; done) | (simp [q1, q2, q3]; done) | (simp at q1; done) | (simp at q2; done) | (simp at q3; done) | (simp [q1, q2, q3] <;> omega) | (exfalso; simp at q1 q2 q3; omega) | (simp [q2, q3] at q1; done) | (simp [q1, q3] at q2; done) | (simp [q1, q2] at q3; done)) stsub_nil)
          refine JL_nil ?_
          refine JE_seq ?_
          -- stop: cond
          rw [hgk]
          refine JC_cond rfl (fun h7 => ?_) (fun h7 => ?_)
          · refine JC_seq ?_
            refine JC_region ?_
            refine JL_pd rfl (det_assign rfl) ?_
            refine JL_nil ?_
            refine JE_seq ?_
            refine JC_ret ?_
            refine JE_block_ret ?_
            refine JE_seq_ret ?_
            refine JE_then_ret ?_
            refine JE_block_ret ?_
            refine JE_seq_ret ?_
            -- stop: out
            refine JE_out (.inl rfl) () (results1 Try.results67 (res_tmp rfl)) (by rw [e4, if_neg h1', if_neg h5, if_pos (all_no (p := fun y : Gx => grOk y.g) hi2 (by simpa using h7))]) (List.Perm.refl _) (fun _ _ => trivial)
          · refine JC_skip ?_
            refine JE_block ?_
            refine JE_seq ?_
            refine JC_region ?_
            refine JL_pd rfl (det_move rfl) ?_
            refine JL_pd rfl (det_add rfl rfl ⟨by omega, by omega⟩) ?_
            refine JL_pd rfl (det_assign rfl) ?_
            refine JL_nil ?_
            -- stop: end
            refine JE_roundF hK' (i + 1) ⟨by omega, all_snoc (p := fun y : Gx => grOk y.g) hi2 hgr (by simpa using h7)⟩ (by omega) (stsub_consI rfl (by omega) stsub_nil) ht_nil
        · obtain rfl : i = xs.length := by omega
          rw [List.take_length] at hgr
          refine JC_exit ?_
          refine JE_seq_exit ?_
          refine JE_then_exit ?_
          refine JE_block_here ?_
          refine JE_seq ?_
          refine JC_seq ?_
          refine JC_region ?_
          refine JL_pd rfl (det_assign rfl) ?_
          refine JL_nil ?_
          refine JE_seq ?_
          refine JC_ret ?_
          -- stop: out
          refine JE_out (.inl rfl) () (results1 Try.results67 (res_tmp rfl)) (by rw [e4, if_neg h1', if_neg h5, if_neg (by rw [hgr]; decide)]) (List.Perm.refl _) (fun _ _ => trivial)
theorem fault_jl (x : Hx) (a : Option Addr) (c : Nat) (xs : List Gx) : Cv Try.prog 24 [.agg #[I x.h.lanes, .slice x.a x.h.shoes.length x.c], .slice a xs.length c] (KAnd (KHx x) (KGs a c xs)) (I (fault x.h (gs xs))) := by
  refine Cx_of Try.func24 rfl Try.ntmps24 rfl fun w0 M0 => ?_
  refine JC_seq ?_
  refine JC_region ?_
  refine JL_step rfl rfl rfl (jo_box rfl rfl) fun b2 => ?_
  refine JL_pd rfl (det_assign rfl) ?_
  refine JL_nil ?_
  refine JE_seq ?_
  refine JC_seq ?_
  refine JC_region ?_
  refine JL_dt rfl (det_loadKA rfl Try.isAgg24 Try.sizeOf24 rfl rfl) ?_
  refine JL_pd rfl (det_move rfl) ?_
  refine JL_step rfl rfl rfl (jo_callv rfl rfl Try.call67 rfl (Fault_j x a c xs)) fun _ => ?_
  refine JL_pd rfl (det_assign rfl) ?_
  refine JL_nil ?_
  refine JE_seq ?_
  refine JC_ret ?_
  -- stop: out
  refine JE_out (.inl rfl) () (results1 Try.results24 (res_tmp rfl)) rfl (List.Perm.refl _) (fun _ _ => trivial)
end Go.Proofs.Ytkmaafnbefpdjaa

/- Walks of the reference of lend: plans. -/
namespace Go.Proofs.Ytkmaafnbefpdjaa
open Go.RowKit Go.Shelf

set_option maxRecDepth 100000 in
theorem IsPlan_j (x : Hx) (ga : Option Addr) (gc n : Nat) (a : Option Addr) (cap : Nat) (plan : List Int) (hl : 0 ≤ x.h.lanes ∧ x.h.lanes ≤ 5) : Cv Try.prog 27 [.agg #[I x.h.lanes, .slice x.a x.h.shoes.length x.c], .slice ga n gc, .slice a plan.length cap] (KSl a plan.length cap encI plan) (.bool (plan.all (fun m => inI m (-1) (x.h.lanes - 1)) && decide (plan.length = n))) := by
  refine Cx_of Try.func27 rfl Try.ntmps27 rfl fun w0 M0 => ?_
  refine JC_seq ?_
  refine JC_region ?_
  refine JL_step rfl rfl rfl (jo_box rfl rfl) fun b3 => ?_
  refine JL_pd rfl (det_assign rfl) ?_
  refine JL_nil ?_
  refine JE_seq ?_
  refine JC_seq ?_
  refine JC_seq ?_
  refine JC_region ?_
  refine JL_pd rfl (det_assign rfl) ?_
  refine JL_nil ?_
  refine JE_seq ?_
  refine JC_block ?_
  -- stop: loop
  refine JC_pure (p := plan.length ≤ 9223372036854775807) (by intro w h; exact h.1.bd) fun hz => ?_
  refine JC_keep b3 noFp ?_
  refine JC_loopF (γ := Nat) (fun i => i ≤ plan.length ∧ (plan.take i).all (fun m => inI m (-1) (x.h.lanes - 1)) = true) (fun i => [(7, I i)]) (fun _ => []) (fun i => plan.length - i) 0 ⟨Nat.zero_le _, rfl⟩ (stsub_consI rfl rfl stsub_nil) ht_nil ?_
  rintro i ⟨hi, hal⟩ K hK
  dsimp only [List.cons_append, List.nil_append]
  refine JC_seq ?_
  refine JC_seq ?_
  refine JC_region ?_
  refine JL_pd rfl (det_move rfl) ?_
  refine JL_pd rfl (det_move rfl) ?_
  refine JL_pd rfl (det_len rfl Try.runUnderlying22) ?_
  refine JL_pd rfl (det_lss rfl rfl) ?_
  refine JL_nil ?_
  refine JE_seq ?_
  -- stop: cond
  refine JC_if rfl (fun h1 => ?_) (fun h1 => ?_)
  · have hi2 : i < plan.length := by omega
    refine JC_skip ?_
    refine JE_seq ?_
    refine JC_seq ?_
    refine JC_block ?_
    refine JC_seq ?_
    refine JC_draw [] (by kernel_rfl) ?_
    refine JA_pd (i := 0) rfl (by kernel_rfl) rfl rfl (det_move rfl) ?_
    refine JA_pd (i := 1) rfl (by kernel_rfl) rfl rfl (det_move rfl) ?_
    refine JA_dt (i := 2) rfl (by kernel_rfl) (by kernel_rfl) rfl rfl (det_indexAddr rfl rfl (by first | rfl | omega) (by first | assumption | omega | decide) Try.runUnderlying22 Try.sizeOf3) ?_
    refine JA_dt (i := 3) rfl (by kernel_rfl) (by kernel_rfl) rfl rfl (det_loadE rfl (by first | assumption | omega | decide) Try.isAgg3 rfl rfl) ?_
    refine JA_pd (i := 4) rfl (by kernel_rfl) rfl rfl (det_fieldAddr rfl fo_24_0) ?_
    refine JA_dt (i := 5) rfl (by kernel_rfl) (by kernel_rfl) rfl rfl (det_loadK rfl Try.isAgg3 rfl) ?_
    refine JA_pd (i := 6) rfl (by kernel_rfl) rfl rfl (det_sub rfl rfl ⟨by omega, by omega⟩) ?_
    refine JA_one (i := 7) (by kernel_rfl) rfl rfl (jo_callv rfl rfl Try.call31 rfl (In_j _ _ _)) (fun _ => ⟨hsub_refl, fun _ h => h⟩) fun _ => ?_
    refine JA_pd (i := 8) rfl (by kernel_rfl) rfl rfl (det_not rfl) ?_
    refine JA_done (by kernel_rfl) ?_
    refine JE_seq ?_
    -- stop: cond
    refine JC_cond rfl (fun h2 => ?_) (fun h2 => ?_)
    · refine JC_seq ?_
      refine JC_region ?_
      refine JL_pd rfl (det_assign rfl) ?_
      refine JL_nil ?_
      refine JE_seq ?_
      refine JC_ret ?_
      refine JE_block_ret ?_
      refine JE_seq_ret ?_
      refine JE_then_ret ?_
      refine JE_block_ret ?_
      refine JE_seq_ret ?_
      -- stop: out
      refine JE_out (.inl rfl) () (results1 Try.results27 (res_tmp rfl)) (by rw [all_no (p := fun m => inI m (-1) (x.h.lanes - 1)) hi2 (by simpa using h2), Bool.false_and]) (List.Perm.refl _) (fun _ _ => trivial)
    · refine JC_skip ?_
      refine JE_block ?_
      refine JE_seq ?_
      refine JC_region ?_
      refine JL_pd rfl (det_move rfl) ?_
      refine JL_pd rfl (det_add rfl rfl ⟨by omega, by omega⟩) ?_
      refine JL_pd rfl (det_assign rfl) ?_
      refine JL_nil ?_
      -- stop: end
      refine JE_roundF hK (i + 1) ⟨by omega, all_snoc (p := fun m => inI m (-1) (x.h.lanes - 1)) hi2 hal (by simpa using h2)⟩ (by omega) (stsub_consI rfl (by omega) stsub_nil) ht_nil
  · obtain rfl : i = plan.length := by omega
    rw [List.take_length] at hal
    refine JC_exit ?_
    refine JE_seq_exit ?_
    refine JE_then_exit ?_
    refine JE_block_here ?_
    refine JE_seq ?_
    refine JC_seq ?_
    refine JC_region ?_
    refine JL_pd rfl (det_move rfl) ?_
    refine JL_pd rfl (det_len rfl Try.runUnderlying22) ?_
    refine JL_pd rfl (det_move rfl) ?_
    refine JL_pd rfl (det_len rfl Try.runUnderlying25) ?_
    refine JL_pd rfl (det_eql rfl rfl) ?_
    refine JL_pd rfl (det_assign rfl) ?_
    refine JL_nil ?_
    refine JE_seq ?_
    refine JC_ret ?_
    -- stop: out
    refine JE_out (.inl rfl) () (results1 Try.results27 (res_tmp rfl)) (by rw [hal, Bool.true_and]; congr 1; exact decide_eq_decide.2 (by omega)) (List.Perm.refl _) (fun _ _ => trivial)
/-- Two groups have a lane at an hour. -/
def meetP (zs : List (Gr × Int)) (t : Int) (i k : Nat) : Prop := ∃ (hi : i < zs.length) (hk : k < zs.length), 0 ≤ zs[i].2 ∧ zs[i].2 = zs[k].2 ∧ stays zs[i].1 t = true ∧ stays zs[k].1 t = true
theorem right_iff {zs : List (Gr × Int)} (hV : ∀ z ∈ zs, VGr z.1) : RightZ zs ↔ ∀ t : Nat, t ≤ 30 → ∀ i, i < zs.length → ∀ k, k < i → ¬ meetP zs t i k := by
  constructor
  · rintro h t _ i hi k hk ⟨_, hkl, q1, q2, q3, q4⟩
    have hp := List.pairwise_iff_getElem.1 h k i hkl hi hk
    have s3 := inI_iff.1 q3
    have s4 := inI_iff.1 q4
    exact hp ⟨by omega, q2.symm, by unfold ovl; omega⟩
  · intro h
    refine List.pairwise_iff_getElem.2 fun k i hk hi hki => ?_
    rintro ⟨q1, q2, q3⟩
    have vk := hV _ (List.getElem_mem hk)
    have vi := hV _ (List.getElem_mem hi)
    have := vk.f0; have := vk.fl; have := vk.lh; have := vk.h1
    have := vi.f0; have := vi.fl; have := vi.lh; have := vi.h1
    obtain ⟨t, t1, t2⟩ := (meets (a := zs[k].1) (b := zs[i].1) (by omega) (by omega)).2 q3
    have s1 := inI_iff.1 t1
    have s2 := inI_iff.1 t2
    refine h t.toNat (by omega) i hi k hki ⟨hi, hk, by omega, q2.symm, ?_, ?_⟩ <;> rw [show ((t.toNat : Nat) : Int) = t by omega] <;> assumption
set_option maxRecDepth 100000 in
set_option maxHeartbeats 1000000 in
theorem Right_j (ga : Option Addr) (gc : Nat) (xs : List Gx) (a : Option Addr) (cap : Nat) (plan : List Int) (hV : ∀ g ∈ gs xs, VGr g) (hn : plan.length = xs.length) (hl : xs.length ≤ 1000) : Cv Try.prog 28 [.slice ga xs.length gc, .slice a plan.length cap] (KAnd (KSl ga xs.length gc encG xs) (KSl a plan.length cap encI plan)) (.bool (rightB (gs xs) plan)) := by
  have hgl : (gs xs).length = xs.length := List.length_map _
  generalize hzs : (gs xs).zip plan = zs
  have hzl : zs.length = xs.length := by rw [← hzs, List.length_zip, hgl]; omega
  have hzg : ∀ i (hi : i < xs.length), zs[i]'(by omega) = (xs[i].g, plan[i]'(by omega)) := fun i hi => by
    subst hzs; rw [List.getElem_zip]; simp [gs]
  have hzV : ∀ z ∈ zs, VGr z.1 := fun z hz => by subst hzs; exact hV _ (List.of_mem_zip hz).1
  have hr : rightB (gs xs) plan = decide (RightZ zs) := by unfold rightB; rw [hzs]
  have hno : ∀ t : Nat, t ≤ 30 → ∀ i, i < xs.length → ∀ k, k < i → meetP zs t i k → rightB (gs xs) plan = false := fun t ht i hi k hk hm => by
    rw [hr]; exact decide_eq_false fun h => (right_iff hzV).1 h t ht i (by omega) k hk hm
  refine Cx_of Try.func28 rfl Try.ntmps28 rfl fun w0 M0 => ?_
  refine JC_seq ?_
  refine JC_region ?_
  refine JL_pd rfl (det_assign rfl) ?_
  refine JL_nil ?_
  refine JE_seq ?_
  refine JC_seq ?_
  refine JC_seq ?_
  refine JC_region ?_
  refine JL_pd rfl (det_assign rfl) ?_
  refine JL_nil ?_
  refine JE_seq ?_
  refine JC_block ?_
  -- stop: loop
  refine JC_loopF (γ := Nat) (fun t => t ≤ 31 ∧ ∀ s : Nat, s < t → ∀ i, i < xs.length → ∀ k, k < i → ¬ meetP zs s i k) (fun t => [(5, I t)]) (fun _ => []) (fun t => 31 - t) 0 ⟨Nat.zero_le _, fun s h => by omega⟩ (stsub_consI rfl rfl stsub_nil) ht_nil ?_
  rintro t ⟨ht, h1⟩ K hK
  dsimp only [List.cons_append, List.nil_append]
  refine JC_seq ?_
  refine JC_seq ?_
  refine JC_region ?_
  refine JL_pd rfl (det_move rfl) ?_
  refine JL_pd rfl (det_leq rfl rfl) ?_
  refine JL_nil ?_
  refine JE_seq ?_
  -- stop: cond
  refine JC_if rfl (fun h2 => ?_) (fun h2 => ?_)
  · have ht2 : t ≤ 30 := by omega
    refine JC_skip ?_
    refine JE_seq ?_
    refine JC_seq ?_
    refine JC_block ?_
    refine JC_seq ?_
    refine JC_region ?_
    refine JL_pd rfl (det_assign rfl) ?_
    refine JL_nil ?_
    refine JE_seq ?_
    refine JC_block ?_
    -- stop: loop
    refine JC_loopF (γ := Nat) (fun i => i ≤ xs.length ∧ ∀ i', i' < i → ∀ k, k < i' → ¬ meetP zs t i' k) (fun i => [(6, I i)]) (fun _ => []) (fun i => xs.length - i) 0 ⟨Nat.zero_le _, fun s h => by omega⟩ (stsub_consI rfl rfl stsub_nil) ht_nil ?_
    rintro i ⟨hi, h3⟩ K1 hK1
    dsimp only [List.cons_append, List.nil_append]
    refine JC_seq ?_
    refine JC_seq ?_
    refine JC_region ?_
    refine JL_pd rfl (det_move rfl) ?_
    refine JL_pd rfl (det_move rfl) ?_
    refine JL_pd rfl (det_len rfl Try.runUnderlying25) ?_
    refine JL_pd rfl (det_lss rfl rfl) ?_
    refine JL_nil ?_
    refine JE_seq ?_
    -- stop: cond
    refine JC_if rfl (fun h4 => ?_) (fun h4 => ?_)
    · have hi2 : i < xs.length := by omega
      have hi3 : i < plan.length := by omega
      refine JC_skip ?_
      refine JE_seq ?_
      refine JC_seq ?_
      refine JC_block ?_
      refine JC_seq ?_
      refine JC_region ?_
      refine JL_pd rfl (det_assign rfl) ?_
      refine JL_nil ?_
      refine JE_seq ?_
      refine JC_block ?_
      -- stop: loop
      refine JC_loopF (γ := Nat) (fun k => k ≤ i ∧ ∀ k', k' < k → ¬ meetP zs t i k') (fun k => [(7, I k)]) (fun _ => []) (fun k => i - k) 0 ⟨Nat.zero_le _, fun s h => by omega⟩ (stsub_consI rfl rfl stsub_nil) ht_nil ?_
      rintro k ⟨hk, h5⟩ K2 hK2
      dsimp only [List.cons_append, List.nil_append]
      refine JC_seq ?_
      refine JC_seq ?_
      refine JC_region ?_
      refine JL_pd rfl (det_move rfl) ?_
      refine JL_pd rfl (det_move rfl) ?_
      refine JL_pd rfl (det_lss rfl rfl) ?_
      refine JL_nil ?_
      refine JE_seq ?_
      -- stop: cond
      refine JC_if rfl (fun h6 => ?_) (fun h6 => ?_)
      · have hk2 : k < i := by omega
        have hk3 : k < xs.length := by omega
        have hk4 : k < plan.length := by omega
        have hmi : meetP zs t i k ↔ 0 ≤ plan[i] ∧ plan[i] = plan[k] ∧ stays xs[i].g t = true ∧ stays xs[k].g t = true := by
          unfold meetP
          constructor
          · rintro ⟨q1, q2, q⟩
            rw [hzg i hi2, hzg k hk3] at q; exact q
          · intro q
            refine ⟨by omega, by omega, ?_⟩
            rw [hzg i hi2, hzg k hk3]; exact q
        have hstep : ¬ meetP zs t i k → ∀ k', k' < k + 1 → ¬ meetP zs t i k' := fun hm k' hk' => by
          by_cases e : k' = k
          · rw [e]; exact hm
          · exact h5 k' (by omega)
        by_cases c1 : 0 ≤ plan[i]
        · by_cases c2 : plan[i] = plan[k]
          · by_cases c3 : stays xs[i].g t = true
            · refine JC_skip ?_
              refine JE_seq ?_
              refine JC_seq ?_
              refine JC_block ?_
              refine JC_seq ?_
              refine JC_draw [] (by kernel_rfl) ?_
              refine JA_pd (i := 0) rfl (by kernel_rfl) rfl rfl (det_move rfl) ?_
              refine JA_pd (i := 1) rfl (by kernel_rfl) rfl rfl (det_move rfl) ?_
              refine JA_dt (i := 2) rfl (by kernel_rfl) (by kernel_rfl) rfl rfl (det_indexAddr rfl rfl (by first | rfl | omega) (by first | assumption | omega | decide) Try.runUnderlying22 Try.sizeOf3) ?_
              refine JA_dt (i := 3) rfl (by kernel_rfl) (by kernel_rfl) rfl rfl (det_loadE rfl (by first | assumption | omega | decide) Try.isAgg3 rfl rfl) ?_
              refine JA_pd (i := 4) rfl (by kernel_rfl) rfl rfl (det_geq rfl rfl) ?_
              refine JA_pd (i := 5) rfl (by kernel_rfl) rfl rfl (det_move rfl) ?_
              -- stop: guard 5
              refine JA_is (d0 := 28) true rfl (by exact decide_eq_true c1) (fun g1 => ?_)
              refine JA_gpd (i := 6) rfl (by kernel_rfl) rfl rfl rfl rfl g1 (det_move rfl) ?_
              refine JA_gpd (i := 7) rfl (by kernel_rfl) rfl rfl rfl rfl g1 (det_move rfl) ?_
              refine JA_gdt (i := 8) rfl (by kernel_rfl) (by kernel_rfl) rfl rfl rfl rfl g1 (det_indexAddr rfl rfl (by first | rfl | omega) (by first | assumption | omega | decide) Try.runUnderlying22 Try.sizeOf3) ?_
              refine JA_gdt (i := 9) rfl (by kernel_rfl) (by kernel_rfl) rfl rfl rfl rfl g1 (det_loadE rfl (by first | assumption | omega | decide) Try.isAgg3 rfl rfl) ?_
              refine JA_gpd (i := 10) rfl (by kernel_rfl) rfl rfl rfl rfl g1 (det_move rfl) ?_
              refine JA_gpd (i := 11) rfl (by kernel_rfl) rfl rfl rfl rfl g1 (det_move rfl) ?_
              refine JA_gdt (i := 12) rfl (by kernel_rfl) (by kernel_rfl) rfl rfl rfl rfl g1 (det_indexAddr rfl rfl (by first | rfl | omega) (by first | assumption | omega | decide) Try.runUnderlying22 Try.sizeOf3) ?_
              refine JA_gdt (i := 13) rfl (by kernel_rfl) (by kernel_rfl) rfl rfl rfl rfl g1 (det_loadE rfl (by first | assumption | omega | decide) Try.isAgg3 rfl rfl) ?_
              refine JA_gpd (i := 14) rfl (by kernel_rfl) rfl rfl rfl rfl g1 (det_eql rfl rfl) ?_
              refine JA_pd (i := 15) rfl (by kernel_rfl) rfl rfl (det_pick_t rfl g1 rfl) ?_
              refine JA_pd (i := 16) rfl (by kernel_rfl) rfl rfl (det_move rfl) ?_
              -- stop: guard 16
              refine JA_is (d0 := 39) true rfl (by exact decide_eq_true c2) (fun g2 => ?_)
              refine JA_gpd (i := 17) rfl (by kernel_rfl) rfl rfl rfl rfl g2 (det_move rfl) ?_
              refine JA_gpd (i := 18) rfl (by kernel_rfl) rfl rfl rfl rfl g2 (det_move rfl) ?_
              refine JA_gdt (i := 19) rfl (by kernel_rfl) (by kernel_rfl) rfl rfl rfl rfl g2 (det_indexAddr rfl rfl (by first | rfl | omega) (by first | assumption | omega | decide) Try.runUnderlying25 Try.sizeOf55) ?_
              refine JA_gdt (i := 20) rfl (by kernel_rfl) (by kernel_rfl) rfl rfl rfl rfl g2 (det_loadEA rfl (by first | assumption | omega | decide) Try.isAgg55 Try.sizeOf55 rfl rfl rfl) ?_
              refine JA_gpd (i := 21) rfl (by kernel_rfl) rfl rfl rfl rfl g2 (det_move rfl) ?_
              refine JA_gone (i := 22) (by kernel_rfl) rfl rfl rfl g2 rfl (jo_callv rfl rfl Try.call68 rfl (Stays_j _ _)) (fun _ => ⟨hsub_refl, fun _ h => h⟩) fun _ => ?_
              refine JA_pd (i := 23) rfl (by kernel_rfl) rfl rfl (det_pick_t rfl g2 rfl) ?_
              refine JA_pd (i := 24) rfl (by kernel_rfl) rfl rfl (det_move rfl) ?_
              -- stop: guard 24
              refine JA_is (d0 := 47) true rfl (by exact c3) (fun g3 => ?_)
              refine JA_gpd (i := 25) rfl (by kernel_rfl) rfl rfl rfl rfl g3 (det_move rfl) ?_
              refine JA_gpd (i := 26) rfl (by kernel_rfl) rfl rfl rfl rfl g3 (det_move rfl) ?_
              refine JA_gdt (i := 27) rfl (by kernel_rfl) (by kernel_rfl) rfl rfl rfl rfl g3 (det_indexAddr rfl rfl (by first | rfl | omega) (by first | assumption | omega | decide) Try.runUnderlying25 Try.sizeOf55) ?_
              refine JA_gdt (i := 28) rfl (by kernel_rfl) (by kernel_rfl) rfl rfl rfl rfl g3 (det_loadEA rfl (by first | assumption | omega | decide) Try.isAgg55 Try.sizeOf55 rfl rfl rfl) ?_
              refine JA_gpd (i := 29) rfl (by kernel_rfl) rfl rfl rfl rfl g3 (det_move rfl) ?_
              refine JA_gone (i := 30) (by kernel_rfl) rfl rfl rfl g3 rfl (jo_callv rfl rfl Try.call68 rfl (Stays_j _ _)) (fun _ => ⟨hsub_refl, fun _ h => h⟩) fun _ => ?_
              refine JA_pd (i := 31) rfl (by kernel_rfl) rfl rfl (det_pick_t rfl g3 rfl) ?_
              refine JA_done (by kernel_rfl) ?_
              refine JE_seq ?_
              -- stop: cond
              refine JC_cond rfl (fun h7 => ?_) (fun h7 => ?_)
              · have hrf := hno t ht2 i hi2 k hk2 (hmi.2 ⟨c1, c2, c3, h7⟩)
                refine JC_seq ?_
                refine JC_region ?_
                refine JL_pd rfl (det_assign rfl) ?_
                refine JL_nil ?_
                refine JE_seq ?_
                refine JC_ret ?_
                refine JE_block_ret ?_
                refine JE_seq_ret ?_
                refine JE_then_ret ?_
                refine JE_block_ret ?_
                refine JE_block_ret ?_
                refine JE_seq_ret ?_
                refine JE_then_ret ?_
                refine JE_block_ret ?_
                refine JE_block_ret ?_
                refine JE_seq_ret ?_
                refine JE_then_ret ?_
                refine JE_block_ret ?_
                refine JE_seq_ret ?_
                -- stop: out
                refine JE_out (.inl rfl) () (results1 Try.results28 (res_tmp rfl)) (by rw [hrf]) (List.Perm.refl _) (fun _ _ => trivial)
              · refine JC_skip ?_
                refine JE_block ?_
                refine JE_seq ?_
                refine JC_region ?_
                refine JL_pd rfl (det_move rfl) ?_
                refine JL_pd rfl (det_add rfl rfl ⟨by omega, by omega⟩) ?_
                refine JL_pd rfl (det_assign rfl) ?_
                refine JL_nil ?_
                -- stop: end
                refine JE_roundF hK2 (k + 1) ⟨by omega, hstep fun h => by have := (hmi.1 h).2.2.2; rw [h7] at this; cases this⟩ (by omega) (stsub_consI rfl (by omega) stsub_nil) ht_nil
            · refine JC_skip ?_
              refine JE_seq ?_
              refine JC_seq ?_
              refine JC_block ?_
              refine JC_seq ?_
              refine JC_draw [] (by kernel_rfl) ?_
              refine JA_pd (i := 0) rfl (by kernel_rfl) rfl rfl (det_move rfl) ?_
              refine JA_pd (i := 1) rfl (by kernel_rfl) rfl rfl (det_move rfl) ?_
              refine JA_dt (i := 2) rfl (by kernel_rfl) (by kernel_rfl) rfl rfl (det_indexAddr rfl rfl (by first | rfl | omega) (by first | assumption | omega | decide) Try.runUnderlying22 Try.sizeOf3) ?_
              refine JA_dt (i := 3) rfl (by kernel_rfl) (by kernel_rfl) rfl rfl (det_loadE rfl (by first | assumption | omega | decide) Try.isAgg3 rfl rfl) ?_
              refine JA_pd (i := 4) rfl (by kernel_rfl) rfl rfl (det_geq rfl rfl) ?_
              refine JA_pd (i := 5) rfl (by kernel_rfl) rfl rfl (det_move rfl) ?_
              -- stop: guard 5
              refine JA_is (d0 := 28) true rfl (by exact decide_eq_true c1) (fun g1 => ?_)
              refine JA_gpd (i := 6) rfl (by kernel_rfl) rfl rfl rfl rfl g1 (det_move rfl) ?_
              refine JA_gpd (i := 7) rfl (by kernel_rfl) rfl rfl rfl rfl g1 (det_move rfl) ?_
              refine JA_gdt (i := 8) rfl (by kernel_rfl) (by kernel_rfl) rfl rfl rfl rfl g1 (det_indexAddr rfl rfl (by first | rfl | omega) (by first | assumption | omega | decide) Try.runUnderlying22 Try.sizeOf3) ?_
              refine JA_gdt (i := 9) rfl (by kernel_rfl) (by kernel_rfl) rfl rfl rfl rfl g1 (det_loadE rfl (by first | assumption | omega | decide) Try.isAgg3 rfl rfl) ?_
              refine JA_gpd (i := 10) rfl (by kernel_rfl) rfl rfl rfl rfl g1 (det_move rfl) ?_
              refine JA_gpd (i := 11) rfl (by kernel_rfl) rfl rfl rfl rfl g1 (det_move rfl) ?_
              refine JA_gdt (i := 12) rfl (by kernel_rfl) (by kernel_rfl) rfl rfl rfl rfl g1 (det_indexAddr rfl rfl (by first | rfl | omega) (by first | assumption | omega | decide) Try.runUnderlying22 Try.sizeOf3) ?_
              refine JA_gdt (i := 13) rfl (by kernel_rfl) (by kernel_rfl) rfl rfl rfl rfl g1 (det_loadE rfl (by first | assumption | omega | decide) Try.isAgg3 rfl rfl) ?_
              refine JA_gpd (i := 14) rfl (by kernel_rfl) rfl rfl rfl rfl g1 (det_eql rfl rfl) ?_
              refine JA_pd (i := 15) rfl (by kernel_rfl) rfl rfl (det_pick_t rfl g1 rfl) ?_
              refine JA_pd (i := 16) rfl (by kernel_rfl) rfl rfl (det_move rfl) ?_
              -- stop: guard 16
              refine JA_is (d0 := 39) true rfl (by exact decide_eq_true c2) (fun g2 => ?_)
              refine JA_gpd (i := 17) rfl (by kernel_rfl) rfl rfl rfl rfl g2 (det_move rfl) ?_
              refine JA_gpd (i := 18) rfl (by kernel_rfl) rfl rfl rfl rfl g2 (det_move rfl) ?_
              refine JA_gdt (i := 19) rfl (by kernel_rfl) (by kernel_rfl) rfl rfl rfl rfl g2 (det_indexAddr rfl rfl (by first | rfl | omega) (by first | assumption | omega | decide) Try.runUnderlying25 Try.sizeOf55) ?_
              refine JA_gdt (i := 20) rfl (by kernel_rfl) (by kernel_rfl) rfl rfl rfl rfl g2 (det_loadEA rfl (by first | assumption | omega | decide) Try.isAgg55 Try.sizeOf55 rfl rfl rfl) ?_
              refine JA_gpd (i := 21) rfl (by kernel_rfl) rfl rfl rfl rfl g2 (det_move rfl) ?_
              refine JA_gone (i := 22) (by kernel_rfl) rfl rfl rfl g2 rfl (jo_callv rfl rfl Try.call68 rfl (Stays_j _ _)) (fun _ => ⟨hsub_refl, fun _ h => h⟩) fun _ => ?_
              refine JA_pd (i := 23) rfl (by kernel_rfl) rfl rfl (det_pick_t rfl g2 rfl) ?_
              refine JA_pd (i := 24) rfl (by kernel_rfl) rfl rfl (det_move rfl) ?_
              -- stop: guard 24
              refine JA_is (d0 := 47) false rfl (by simpa using c3) (fun g3 => ?_)
              refine JA_skip (i := 25) rfl (by kernel_rfl) rfl rfl rfl rfl g3 ?_
              refine JA_skip (i := 26) rfl (by kernel_rfl) rfl rfl rfl rfl g3 ?_
              refine JA_skip (i := 27) rfl (by kernel_rfl) rfl rfl rfl rfl g3 ?_
              refine JA_skip (i := 28) rfl (by kernel_rfl) rfl rfl rfl rfl g3 ?_
              refine JA_skip (i := 29) rfl (by kernel_rfl) rfl rfl rfl rfl g3 ?_
              refine JA_skip (i := 30) rfl (by kernel_rfl) rfl rfl rfl rfl g3 ?_
              refine JA_pd (i := 31) rfl (by kernel_rfl) rfl rfl (det_pick_f rfl g3 rfl) ?_
              refine JA_done (by kernel_rfl) ?_
              refine JE_seq ?_
              -- stop: cond
              refine JC_cond rfl (fun h7 => ?_) (fun h7 => ?_)
              · cases h7
              · refine JC_skip ?_
                refine JE_block ?_
                refine JE_seq ?_
                refine JC_region ?_
                refine JL_pd rfl (det_move rfl) ?_
                refine JL_pd rfl (det_add rfl rfl ⟨by omega, by omega⟩) ?_
                refine JL_pd rfl (det_assign rfl) ?_
                refine JL_nil ?_
                -- stop: end
                refine JE_roundF hK2 (k + 1) ⟨by omega, hstep fun h => c3 (hmi.1 h).2.2.1⟩ (by omega) (stsub_consI rfl (by omega) stsub_nil) ht_nil
          · refine JC_skip ?_
            refine JE_seq ?_
            refine JC_seq ?_
            refine JC_block ?_
            refine JC_seq ?_
            refine JC_draw [] (by kernel_rfl) ?_
            refine JA_pd (i := 0) rfl (by kernel_rfl) rfl rfl (det_move rfl) ?_
            refine JA_pd (i := 1) rfl (by kernel_rfl) rfl rfl (det_move rfl) ?_
            refine JA_dt (i := 2) rfl (by kernel_rfl) (by kernel_rfl) rfl rfl (det_indexAddr rfl rfl (by first | rfl | omega) (by first | assumption | omega | decide) Try.runUnderlying22 Try.sizeOf3) ?_
            refine JA_dt (i := 3) rfl (by kernel_rfl) (by kernel_rfl) rfl rfl (det_loadE rfl (by first | assumption | omega | decide) Try.isAgg3 rfl rfl) ?_
            refine JA_pd (i := 4) rfl (by kernel_rfl) rfl rfl (det_geq rfl rfl) ?_
            refine JA_pd (i := 5) rfl (by kernel_rfl) rfl rfl (det_move rfl) ?_
            -- stop: guard 5
            refine JA_is (d0 := 28) true rfl (by exact decide_eq_true c1) (fun g1 => ?_)
            refine JA_gpd (i := 6) rfl (by kernel_rfl) rfl rfl rfl rfl g1 (det_move rfl) ?_
            refine JA_gpd (i := 7) rfl (by kernel_rfl) rfl rfl rfl rfl g1 (det_move rfl) ?_
            refine JA_gdt (i := 8) rfl (by kernel_rfl) (by kernel_rfl) rfl rfl rfl rfl g1 (det_indexAddr rfl rfl (by first | rfl | omega) (by first | assumption | omega | decide) Try.runUnderlying22 Try.sizeOf3) ?_
            refine JA_gdt (i := 9) rfl (by kernel_rfl) (by kernel_rfl) rfl rfl rfl rfl g1 (det_loadE rfl (by first | assumption | omega | decide) Try.isAgg3 rfl rfl) ?_
            refine JA_gpd (i := 10) rfl (by kernel_rfl) rfl rfl rfl rfl g1 (det_move rfl) ?_
            refine JA_gpd (i := 11) rfl (by kernel_rfl) rfl rfl rfl rfl g1 (det_move rfl) ?_
            refine JA_gdt (i := 12) rfl (by kernel_rfl) (by kernel_rfl) rfl rfl rfl rfl g1 (det_indexAddr rfl rfl (by first | rfl | omega) (by first | assumption | omega | decide) Try.runUnderlying22 Try.sizeOf3) ?_
            refine JA_gdt (i := 13) rfl (by kernel_rfl) (by kernel_rfl) rfl rfl rfl rfl g1 (det_loadE rfl (by first | assumption | omega | decide) Try.isAgg3 rfl rfl) ?_
            refine JA_gpd (i := 14) rfl (by kernel_rfl) rfl rfl rfl rfl g1 (det_eql rfl rfl) ?_
            refine JA_pd (i := 15) rfl (by kernel_rfl) rfl rfl (det_pick_t rfl g1 rfl) ?_
            refine JA_pd (i := 16) rfl (by kernel_rfl) rfl rfl (det_move rfl) ?_
            -- stop: guard 16
            refine JA_is (d0 := 39) false rfl (by exact decide_eq_false c2) (fun g2 => ?_)
            refine JA_skip (i := 17) rfl (by kernel_rfl) rfl rfl rfl rfl g2 ?_
            refine JA_skip (i := 18) rfl (by kernel_rfl) rfl rfl rfl rfl g2 ?_
            refine JA_skip (i := 19) rfl (by kernel_rfl) rfl rfl rfl rfl g2 ?_
            refine JA_skip (i := 20) rfl (by kernel_rfl) rfl rfl rfl rfl g2 ?_
            refine JA_skip (i := 21) rfl (by kernel_rfl) rfl rfl rfl rfl g2 ?_
            refine JA_skip (i := 22) rfl (by kernel_rfl) rfl rfl rfl rfl g2 ?_
            refine JA_pd (i := 23) rfl (by kernel_rfl) rfl rfl (det_pick_f rfl g2 rfl) ?_
            refine JA_pd (i := 24) rfl (by kernel_rfl) rfl rfl (det_move rfl) ?_
            -- stop: guard 24
            refine JA_is (d0 := 47) false rfl (by rfl) (fun g3 => ?_)
            refine JA_skip (i := 25) rfl (by kernel_rfl) rfl rfl rfl rfl g3 ?_
            refine JA_skip (i := 26) rfl (by kernel_rfl) rfl rfl rfl rfl g3 ?_
            refine JA_skip (i := 27) rfl (by kernel_rfl) rfl rfl rfl rfl g3 ?_
            refine JA_skip (i := 28) rfl (by kernel_rfl) rfl rfl rfl rfl g3 ?_
            refine JA_skip (i := 29) rfl (by kernel_rfl) rfl rfl rfl rfl g3 ?_
            refine JA_skip (i := 30) rfl (by kernel_rfl) rfl rfl rfl rfl g3 ?_
            refine JA_pd (i := 31) rfl (by kernel_rfl) rfl rfl (det_pick_f rfl g3 rfl) ?_
            refine JA_done (by kernel_rfl) ?_
            refine JE_seq ?_
            -- stop: cond
            refine JC_cond rfl (fun h7 => ?_) (fun h7 => ?_)
            · cases h7
            · refine JC_skip ?_
              refine JE_block ?_
              refine JE_seq ?_
              refine JC_region ?_
              refine JL_pd rfl (det_move rfl) ?_
              refine JL_pd rfl (det_add rfl rfl ⟨by omega, by omega⟩) ?_
              refine JL_pd rfl (det_assign rfl) ?_
              refine JL_nil ?_
              -- stop: end
              refine JE_roundF hK2 (k + 1) ⟨by omega, hstep fun h => c2 (hmi.1 h).2.1⟩ (by omega) (stsub_consI rfl (by omega) stsub_nil) ht_nil
        · refine JC_skip ?_
          refine JE_seq ?_
          refine JC_seq ?_
          refine JC_block ?_
          refine JC_seq ?_
          refine JC_draw [] (by kernel_rfl) ?_
          refine JA_pd (i := 0) rfl (by kernel_rfl) rfl rfl (det_move rfl) ?_
          refine JA_pd (i := 1) rfl (by kernel_rfl) rfl rfl (det_move rfl) ?_
          refine JA_dt (i := 2) rfl (by kernel_rfl) (by kernel_rfl) rfl rfl (det_indexAddr rfl rfl (by first | rfl | omega) (by first | assumption | omega | decide) Try.runUnderlying22 Try.sizeOf3) ?_
          refine JA_dt (i := 3) rfl (by kernel_rfl) (by kernel_rfl) rfl rfl (det_loadE rfl (by first | assumption | omega | decide) Try.isAgg3 rfl rfl) ?_
          refine JA_pd (i := 4) rfl (by kernel_rfl) rfl rfl (det_geq rfl rfl) ?_
          refine JA_pd (i := 5) rfl (by kernel_rfl) rfl rfl (det_move rfl) ?_
          -- stop: guard 5
          refine JA_is (d0 := 28) false rfl (by exact decide_eq_false c1) (fun g1 => ?_)
          refine JA_skip (i := 6) rfl (by kernel_rfl) rfl rfl rfl rfl g1 ?_
          refine JA_skip (i := 7) rfl (by kernel_rfl) rfl rfl rfl rfl g1 ?_
          refine JA_skip (i := 8) rfl (by kernel_rfl) rfl rfl rfl rfl g1 ?_
          refine JA_skip (i := 9) rfl (by kernel_rfl) rfl rfl rfl rfl g1 ?_
          refine JA_skip (i := 10) rfl (by kernel_rfl) rfl rfl rfl rfl g1 ?_
          refine JA_skip (i := 11) rfl (by kernel_rfl) rfl rfl rfl rfl g1 ?_
          refine JA_skip (i := 12) rfl (by kernel_rfl) rfl rfl rfl rfl g1 ?_
          refine JA_skip (i := 13) rfl (by kernel_rfl) rfl rfl rfl rfl g1 ?_
          refine JA_skip (i := 14) rfl (by kernel_rfl) rfl rfl rfl rfl g1 ?_
          refine JA_pd (i := 15) rfl (by kernel_rfl) rfl rfl (det_pick_f rfl g1 rfl) ?_
          refine JA_pd (i := 16) rfl (by kernel_rfl) rfl rfl (det_move rfl) ?_
          -- stop: guard 16
          refine JA_is (d0 := 39) false rfl (by rfl) (fun g2 => ?_)
          refine JA_skip (i := 17) rfl (by kernel_rfl) rfl rfl rfl rfl g2 ?_
          refine JA_skip (i := 18) rfl (by kernel_rfl) rfl rfl rfl rfl g2 ?_
          refine JA_skip (i := 19) rfl (by kernel_rfl) rfl rfl rfl rfl g2 ?_
          refine JA_skip (i := 20) rfl (by kernel_rfl) rfl rfl rfl rfl g2 ?_
          refine JA_skip (i := 21) rfl (by kernel_rfl) rfl rfl rfl rfl g2 ?_
          refine JA_skip (i := 22) rfl (by kernel_rfl) rfl rfl rfl rfl g2 ?_
          refine JA_pd (i := 23) rfl (by kernel_rfl) rfl rfl (det_pick_f rfl g2 rfl) ?_
          refine JA_pd (i := 24) rfl (by kernel_rfl) rfl rfl (det_move rfl) ?_
          -- stop: guard 24
          refine JA_is (d0 := 47) false rfl (by rfl) (fun g3 => ?_)
          refine JA_skip (i := 25) rfl (by kernel_rfl) rfl rfl rfl rfl g3 ?_
          refine JA_skip (i := 26) rfl (by kernel_rfl) rfl rfl rfl rfl g3 ?_
          refine JA_skip (i := 27) rfl (by kernel_rfl) rfl rfl rfl rfl g3 ?_
          refine JA_skip (i := 28) rfl (by kernel_rfl) rfl rfl rfl rfl g3 ?_
          refine JA_skip (i := 29) rfl (by kernel_rfl) rfl rfl rfl rfl g3 ?_
          refine JA_skip (i := 30) rfl (by kernel_rfl) rfl rfl rfl rfl g3 ?_
          refine JA_pd (i := 31) rfl (by kernel_rfl) rfl rfl (det_pick_f rfl g3 rfl) ?_
          refine JA_done (by kernel_rfl) ?_
          refine JE_seq ?_
          -- stop: cond
          refine JC_cond rfl (fun h7 => ?_) (fun h7 => ?_)
          · cases h7
          · refine JC_skip ?_
            refine JE_block ?_
            refine JE_seq ?_
            refine JC_region ?_
            refine JL_pd rfl (det_move rfl) ?_
            refine JL_pd rfl (det_add rfl rfl ⟨by omega, by omega⟩) ?_
            refine JL_pd rfl (det_assign rfl) ?_
            refine JL_nil ?_
            -- stop: end
            refine JE_roundF hK2 (k + 1) ⟨by omega, hstep fun h => c1 (hmi.1 h).1⟩ (by omega) (stsub_consI rfl (by omega) stsub_nil) ht_nil
      · obtain rfl : k = i := by omega
        refine JC_exit ?_
        refine JE_seq_exit ?_
        refine JE_then_exit ?_
        refine JE_block_here ?_
        refine JE_block ?_
        refine JE_seq ?_
        refine JC_region ?_
        refine JL_pd rfl (det_move rfl) ?_
        refine JL_pd rfl (det_add rfl rfl ⟨by omega, by omega⟩) ?_
        refine JL_pd rfl (det_assign rfl) ?_
        refine JL_nil ?_
        -- stop: end
        refine JE_roundF hK1 (k + 1) ⟨by omega, fun i' hi' m hm => ?_⟩ (by omega) (stsub_consI rfl (by omega) stsub_nil) ht_nil
        by_cases e : i' = k
        · subst e; exact h5 m hm
        · exact h3 i' (by omega) m hm
    · obtain rfl : i = xs.length := by omega
      refine JC_exit ?_
      refine JE_seq_exit ?_
      refine JE_then_exit ?_
      refine JE_block_here ?_
      refine JE_block ?_
      refine JE_seq ?_
      refine JC_region ?_
      refine JL_pd rfl (det_move rfl) ?_
      refine JL_pd rfl (det_add rfl rfl ⟨by omega, by omega⟩) ?_
      refine JL_pd rfl (det_assign rfl) ?_
      refine JL_nil ?_
      -- stop: end
      refine JE_roundF hK (t + 1) ⟨by omega, fun s hs i' hi' m hm => ?_⟩ (by omega) (stsub_consI rfl (by omega) stsub_nil) ht_nil
      by_cases e : s = t
      · subst e; exact h3 i' hi' m hm
      · exact h1 s (by omega) i' hi' m hm
  · have hrt : rightB (gs xs) plan = true := by
      rw [hr]; exact decide_eq_true ((right_iff hzV).2 fun s hs i hi k hk => h1 s (by omega) i (by omega) k hk)
    refine JC_exit ?_
    refine JE_seq_exit ?_
    refine JE_then_exit ?_
    refine JE_block_here ?_
    refine JE_seq ?_
    refine JC_seq ?_
    refine JC_region ?_
    refine JL_pd rfl (det_assign rfl) ?_
    refine JL_nil ?_
    refine JE_seq ?_
    refine JC_ret ?_
    -- stop: out
    refine JE_out (.inl rfl) () (results1 Try.results28 (res_tmp rfl)) (by rw [hrt]) (List.Perm.refl _) (fun _ _ => trivial)
set_option maxRecDepth 100000 in
theorem Served_j (a : Option Addr) (cap : Nat) (plan : List Int) (hl : plan.length ≤ 1000) : Cv Try.prog 26 [.slice a plan.length cap] (KSl a plan.length cap encI plan) (I ((served plan : Nat) : Int)) := by
  refine Cx_of Try.func26 rfl Try.ntmps26 rfl fun w0 M0 => ?_
  refine JC_seq ?_
  refine JC_region ?_
  refine JL_pd rfl (det_assign rfl) ?_
  refine JL_nil ?_
  refine JE_seq ?_
  refine JC_seq ?_
  refine JC_region ?_
  refine JL_pd rfl (det_assign rfl) ?_
  refine JL_nil ?_
  refine JE_seq ?_
  refine JC_seq ?_
  refine JC_seq ?_
  refine JC_region ?_
  refine JL_pd rfl (det_assign rfl) ?_
  refine JL_nil ?_
  refine JE_seq ?_
  refine JC_block ?_
  -- stop: loop
  refine JC_loopF (γ := Nat) (fun i => i ≤ plan.length) (fun i => [(4, I i), (3, I ((served (plan.take i) : Nat) : Int))]) (fun _ => []) (fun i => plan.length - i) 0 (Nat.zero_le _) (stsub_consI rfl rfl (stsub_consI rfl rfl stsub_nil)) ht_nil ?_
  intro i hi K hK
  dsimp only [List.cons_append, List.nil_append]
  have hcl : served (plan.take i) ≤ plan.length := Nat.le_trans List.countP_le_length (by rw [List.length_take]; omega)
  refine JC_seq ?_
  refine JC_seq ?_
  refine JC_region ?_
  refine JL_pd rfl (det_move rfl) ?_
  refine JL_pd rfl (det_move rfl) ?_
  refine JL_pd rfl (det_len rfl Try.runUnderlying22) ?_
  refine JL_pd rfl (det_lss rfl rfl) ?_
  refine JL_nil ?_
  refine JE_seq ?_
  -- stop: cond
  refine JC_if rfl (fun h1 => ?_) (fun h1 => ?_)
  · have hi2 : i < plan.length := by omega
    have hs := countP_snoc (fun n : Int => decide (0 ≤ n)) plan i hi2
    refine JC_skip ?_
    refine JE_seq ?_
    refine JC_seq ?_
    refine JC_block ?_
    refine JC_seq ?_
    refine JC_region ?_
    refine JL_pd rfl (det_move rfl) ?_
    refine JL_pd rfl (det_move rfl) ?_
    refine JL_dt rfl (det_indexAddr rfl rfl (by first | rfl | omega) (by first | assumption | omega | decide) Try.runUnderlying22 Try.sizeOf3) ?_
    refine JL_dt rfl (det_loadE rfl (by first | assumption | omega | decide) Try.isAgg3 rfl rfl) ?_
    refine JL_pd rfl (det_geq rfl rfl) ?_
    refine JL_nil ?_
    refine JE_seq ?_
    -- stop: cond
    refine JC_if rfl (fun h2 => ?_) (fun h2 => ?_)
    · refine JC_region ?_
      refine JL_pd rfl (det_move rfl) ?_
      refine JL_pd rfl (det_add rfl rfl ⟨by omega, by omega⟩) ?_
      refine JL_pd rfl (det_assign rfl) ?_
      refine JL_nil ?_
      refine JE_block ?_
      refine JE_seq ?_
      refine JC_region ?_
      refine JL_pd rfl (det_move rfl) ?_
      refine JL_pd rfl (det_add rfl rfl ⟨by omega, by omega⟩) ?_
      refine JL_pd rfl (det_assign rfl) ?_
      refine JL_nil ?_
      -- stop: end
      rw [if_pos (decide_eq_true h2)] at hs
      refine JE_roundF hK (i + 1) (by omega) (by omega) (stsub_consI rfl (by omega) (stsub_consI rfl (by unfold served; omega) stsub_nil)) ht_nil
    · refine JC_skip ?_
      refine JE_block ?_
      refine JE_seq ?_
      refine JC_region ?_
      refine JL_pd rfl (det_move rfl) ?_
      refine JL_pd rfl (det_add rfl rfl ⟨by omega, by omega⟩) ?_
      refine JL_pd rfl (det_assign rfl) ?_
      refine JL_nil ?_
      -- stop: end
      rw [if_neg (by rw [decide_eq_false h2]; decide)] at hs
      refine JE_roundF hK (i + 1) (by omega) (by omega) (stsub_consI rfl (by omega) (stsub_consI rfl (by unfold served; omega) stsub_nil)) ht_nil
  · refine JC_exit ?_
    refine JE_seq_exit ?_
    refine JE_then_exit ?_
    refine JE_block_here ?_
    refine JE_seq ?_
    refine JC_seq ?_
    refine JC_region ?_
    refine JL_pd rfl (det_move rfl) ?_
    refine JL_pd rfl (det_assign rfl) ?_
    refine JL_nil ?_
    refine JE_seq ?_
    refine JC_ret ?_
    -- stop: out
    obtain rfl : i = plan.length := by omega
    refine JE_out (.inl rfl) () (results1 Try.results26 (res_tmp rfl)) (by rw [List.take_length]) (List.Perm.refl _) (fun _ _ => trivial)
theorem planned_jl (x : Hx) (ga : Option Addr) (gc : Nat) (xs : List Gx) (a : Option Addr) (cap : Nat) (plan : List Int) : Cv Try.prog 25 [.agg #[I x.h.lanes, .slice x.a x.h.shoes.length x.c], .slice ga xs.length gc, .slice a plan.length cap] (KAnd (KHx x) (KAnd (KGs ga gc xs) (KSl a plan.length cap encI plan))) (I (plannedE x.h (gs xs) plan)) := by
  refine Cx_of Try.func25 rfl Try.ntmps25 rfl fun w0 M0 => ?_
  refine JC_seq ?_
  refine JC_region ?_
  refine JL_step rfl rfl rfl (jo_box rfl rfl) fun b3 => ?_
  refine JL_pd rfl (det_assign rfl) ?_
  refine JL_nil ?_
  refine JE_seq ?_
  refine JC_seq ?_
  refine JC_seq ?_
  refine JC_region ?_
  refine JL_dt rfl (det_loadKA rfl Try.isAgg24 Try.sizeOf24 rfl rfl) ?_
  refine JL_pd rfl (det_move rfl) ?_
  refine JL_step rfl rfl rfl (jo_callv rfl rfl Try.call24 rfl (fault_jl x ga gc xs)) fun _ => ?_
  refine JL_pd rfl (det_assign rfl) ?_
  refine JL_nil ?_
  refine JE_seq ?_
  refine JC_seq ?_
  refine JC_region ?_
  refine JL_pd rfl (det_move rfl) ?_
  refine JL_pd rfl (det_neq rfl rfl) ?_
  refine JL_nil ?_
  refine JE_seq ?_
  -- stop: cond
  refine JC_ifn rfl (fun h1 => ?_) (fun h1 => ?_)
  · refine JC_seq ?_
    refine JC_region ?_
    refine JL_pd rfl (det_move rfl) ?_
    refine JL_pd rfl (det_assign rfl) ?_
    refine JL_nil ?_
    refine JE_seq ?_
    refine JC_ret ?_
    refine JE_seq_ret ?_
    -- stop: out
    refine JE_out (.inl rfl) () (results1 Try.results25 (res_tmp rfl)) (by unfold plannedE; rw [if_pos h1]) (List.Perm.refl _) (fun _ _ => trivial)
  · have V := vld_of h1
    have hn : xs.length ≤ 8 := by have := V.n; simpa [gs] using this
    refine JC_skip ?_
    refine JE_seq ?_
    refine JC_seq ?_
    refine JC_seq ?_
    refine JC_region ?_
    refine JL_dt rfl (det_loadKA rfl Try.isAgg24 Try.sizeOf24 rfl rfl) ?_
    refine JL_pd rfl (det_move rfl) ?_
    refine JL_pd rfl (det_move rfl) ?_
    refine JL_step rfl rfl rfl (jo_callv rfl rfl Try.call27 rfl (IsPlan_j x ga gc xs.length a cap plan ⟨V.hs.l0, V.hs.l1⟩)) fun _ => ?_
    refine JL_pd rfl (det_not rfl) ?_
    refine JL_nil ?_
    refine JE_seq ?_
    -- stop: cond
    refine JC_cond rfl (fun h2 => ?_) (fun h2 => ?_)
    · refine JC_seq ?_
      refine JC_region ?_
      refine JL_pd rfl (det_assign rfl) ?_
      refine JL_nil ?_
      refine JE_seq ?_
      refine JC_ret ?_
      refine JE_seq_ret ?_
      -- stop: out
      refine JE_out (.inl rfl) () (results1 Try.results25 (res_tmp rfl)) (by unfold plannedE; rw [if_neg (by omega), if_pos (by rw [isPlan_eq]; simpa only [Bool.not_eq_true'] using h2)]) (List.Perm.refl _) (fun _ _ => trivial)
    · have h2' : isPlan x.h.lanes (gs xs) plan = true := by rw [isPlan_eq]; simpa only [Bool.not_eq_false'] using h2
      have h2'' := h2'
      rw [isPlan_eq, Bool.and_eq_true, decide_eq_true_eq] at h2''
      refine JC_skip ?_
      refine JE_seq ?_
      refine JC_seq ?_
      refine JC_seq ?_
      refine JC_region ?_
      refine JL_pd rfl (det_move rfl) ?_
      refine JL_pd rfl (det_move rfl) ?_
      refine JL_step rfl rfl rfl (jo_callv rfl rfl Try.call28 rfl (Right_j ga gc xs a cap plan V.gr h2''.2 (by omega))) fun _ => ?_
      refine JL_pd rfl (det_not rfl) ?_
      refine JL_nil ?_
      refine JE_seq ?_
      -- stop: cond
      refine JC_cond rfl (fun h3 => ?_) (fun h3 => ?_)
      · refine JC_seq ?_
        refine JC_region ?_
        refine JL_pd rfl (det_assign rfl) ?_
        refine JL_nil ?_
        refine JE_seq ?_
        refine JC_ret ?_
        refine JE_seq_ret ?_
        -- stop: out
        refine JE_out (.inl rfl) () (results1 Try.results25 (res_tmp rfl)) (by unfold plannedE; rw [if_neg (by omega), if_neg (by rw [h2']; decide), if_pos (by simpa using h3)]) (List.Perm.refl _) (fun _ _ => trivial)
      · refine JC_skip ?_
        refine JE_seq ?_
        refine JC_seq ?_
        refine JC_region ?_
        refine JL_pd rfl (det_assign rfl) ?_
        refine JL_nil ?_
        refine JE_seq ?_
        refine JC_ret ?_
        -- stop: out
        refine JE_out (.inl rfl) () (results1 Try.results25 (res_tmp rfl)) (by unfold plannedE; rw [if_neg (by omega), if_neg (by rw [h2']; decide), if_neg (by simpa using h3)]) (List.Perm.refl _) (fun _ _ => trivial)
end Go.Proofs.Ytkmaafnbefpdjaa

/- Walks of the reference of lend: the greatest number. -/
namespace Go.Proofs.Ytkmaafnbefpdjaa
open Go.RowKit Go.Shelf

set_option maxRecDepth 100000 in
set_option maxHeartbeats 1000000 in
theorem Most_j (x : Hx) (ga : Option Addr) (gc : Nat) (xs : List Gx) (k : Nat) (hk : x.h.lanes = k) (hk5 : k ≤ 5) (hV : ∀ g ∈ gs xs, VGr g) (hl : xs.length ≤ 1000) : ∀ (n : Nat) (plan : List Int) (a : Option Addr) (cap : Nat), plan.length + n = xs.length →
    Cv Try.prog 29 [.agg #[I x.h.lanes, .slice x.a x.h.shoes.length x.c], .slice ga xs.length gc, .slice a plan.length cap] (KAnd (KSl ga xs.length gc encG xs) (KSl a plan.length cap encI plan)) (I (mostV k (gs xs) n plan)) := by
  intro n
  induction n with
  | zero =>
    intro plan a cap hn
    refine Cx_of Try.func29 rfl Try.ntmps29 rfl fun w0 M0 => ?_
    refine JC_seq ?_
    refine JC_region ?_
    refine JL_step rfl rfl rfl (jo_box rfl rfl) fun b3 => ?_
    refine JL_pd rfl (det_assign rfl) ?_
    refine JL_nil ?_
    refine JE_seq ?_
    refine JC_seq ?_
    refine JC_seq ?_
    refine JC_region ?_
    refine JL_pd rfl (det_move rfl) ?_
    refine JL_pd rfl (det_len rfl Try.runUnderlying22) ?_
    refine JL_pd rfl (det_move rfl) ?_
    refine JL_pd rfl (det_len rfl Try.runUnderlying25) ?_
    refine JL_pd rfl (det_eql rfl rfl) ?_
    refine JL_nil ?_
    refine JE_seq ?_
    -- stop: cond
    refine JC_if rfl (fun h1 => ?_) (fun h1 => ?_)
    · refine JC_seq ?_
      refine JC_region ?_
      refine JL_pd rfl (det_move rfl) ?_
      refine JL_step rfl rfl rfl (jo_callv rfl rfl Try.call26 rfl (Served_j a cap plan (by omega))) fun _ => ?_
      refine JL_pd rfl (det_assign rfl) ?_
      refine JL_nil ?_
      refine JE_seq ?_
      refine JC_ret ?_
      refine JE_seq_ret ?_
      -- stop: out
      refine JE_out (.inl rfl) () (results1 Try.results29 (res_tmp rfl)) rfl (List.Perm.refl _) (fun _ _ => trivial)
    · exact absurd h1 (by omega)
  | succ n IH =>
    intro plan a cap hn
    have hM : ∀ y : Int, (plan ++ [y]).length = 0 + plan.length + 1 := fun y => by simp
    have hcall := fun (y : Int) (a2 : Option Addr) (c2 : Nat) => IH (plan ++ [y]) a2 c2 (by rw [hM]; omega)
    simp only [hM] at hcall
    have hgt : ∀ M, gs (xs.take M) = (gs xs).take M := fun M => List.map_take
    have htl : (xs.take (plan.length + 1)).length = plan.length + 1 := by rw [List.length_take]; omega
    have hright := fun (y : Int) (a2 : Option Addr) (c2 : Nat) => Right_j ga gc (xs.take (plan.length + 1)) a2 c2 (plan ++ [y]) (fun g hg => hV g (by rw [hgt] at hg; exact List.mem_of_mem_take hg)) (by rw [hM, htl]; omega) (by rw [htl]; omega)
    simp only [hM, htl, hgt] at hright
    have hsl : ∀ y : Int, (List.flatMap encI plan ++ [I y]) = (plan ++ [y]).flatMap encI := fun y => by simp [encI]
    generalize hf : (fun (b : Int) (lane : Nat) => if rightB ((gs xs).take (plan.length + 1)) (plan ++ [(lane : Int)]) = true then max b (mostV k (gs xs) n (plan ++ [(lane : Int)])) else b) = f
    have hres : mostV k (gs xs) (n + 1) plan = (List.range k).foldl f (mostV k (gs xs) n (plan ++ [-1])) := by rw [← hf]; rfl
    rw [hres]
    have hstep : ∀ i, (List.range (i + 1)).foldl f (mostV k (gs xs) n (plan ++ [-1])) = f ((List.range i).foldl f (mostV k (gs xs) n (plan ++ [-1]))) i := fun i => by rw [List.range_succ, List.foldl_append]; rfl
    refine Cx_of Try.func29 rfl Try.ntmps29 rfl fun w0 M0 => ?_
    refine JC_seq ?_
    refine JC_region ?_
    refine JL_step rfl rfl rfl (jo_box rfl rfl) fun b3 => ?_
    refine JL_pd rfl (det_assign rfl) ?_
    refine JL_nil ?_
    refine JE_seq ?_
    refine JC_seq ?_
    refine JC_seq ?_
    refine JC_region ?_
    refine JL_pd rfl (det_move rfl) ?_
    refine JL_pd rfl (det_len rfl Try.runUnderlying22) ?_
    refine JL_pd rfl (det_move rfl) ?_
    refine JL_pd rfl (det_len rfl Try.runUnderlying25) ?_
    refine JL_pd rfl (det_eql rfl rfl) ?_
    refine JL_nil ?_
    refine JE_seq ?_
    -- stop: cond
    refine JC_if rfl (fun h1 => ?_) (fun h1 => ?_)
    · exact absurd h1 (by omega)
    refine JC_skip ?_
    refine JE_seq ?_
    refine JC_seq ?_
    -- stop: draw
    refine JC_cutN (γ := Unit) (fun _ => True) (fun u => [(7, I (mostV k (gs xs) n (plan ++ [-1])))]) (fun u => []) (fun K hK => ?_) (fun u _ => ?_)
    · refine JC_draw [] (by kernel_rfl) ?_
      refine JA_dt (i := 0) rfl (by kernel_rfl) (by kernel_rfl) rfl rfl (det_loadKA rfl Try.isAgg24 Try.sizeOf24 rfl rfl) ?_
      refine JA_pd (i := 1) rfl (by kernel_rfl) rfl rfl (det_move rfl) ?_
      refine JA_pd (i := 3) rfl (by kernel_rfl) rfl rfl (det_move rfl) ?_
      refine JA_ready (rs := [2, 5]) (by kernel_rfl) rfl ?_
      refine JAl_cons (i := 2) rfl rfl (jo_buildOwn (z := 1) rfl (bsl_22_0) rfl (by decide)) (fun _ => ⟨hsub_drop 1 rfl, fun _ h => h⟩) (fun b19 => ?_) ?_
      · refine JA_ready (rs := [4, 5]) (by kernel_rfl) rfl ?_
        refine JAl_consH (i := 4) rfl rfl (jo_appendK (e := encI) el_22 rfl rfl encI_one (by omega)) (fun _ => ⟨HIn.sub, Knows.know⟩) (fun b21 => ?_) ?_
        · refine JA_one (i := 5) (by kernel_rfl) rfl rfl (jo_buildSlice rfl (bsl_22_1_0 _)) (fun _ => ⟨hsub_drop 1 rfl, fun _ h => h⟩) fun b22 => ?_
          refine JA_oneH (i := 6) (by kernel_rfl) rfl rfl (jo_append el_22 rfl rfl rfl rfl (by omega)) (fun _ => ⟨HIn.sub, Knows.know⟩) fun b23 => ?_
          refine JA_slice (enc := encI) (v := .slice (some ⟨b23.1, 0, none⟩) (0 + plan.length + 1) b23.2) (plan ++ [-1]) noFp (by simp [encI]) (by simp) ?_
          rintro ka kc hkv
          cases hkv
          refine JA_one (i := 7) (by kernel_rfl) rfl rfl (jo_callv rfl rfl Try.call29 rfl (hcall (-1) _ _)) (fun _ => ⟨hsub_refl, fun _ h => h⟩) fun _ => ?_
          refine JA_pd (i := 8) rfl (by kernel_rfl) rfl rfl (det_assign rfl) ?_
          refine JA_done (by kernel_rfl) ?_
          exact JE_cutF hK () trivial (stsub_cons rfl stsub_nil) (ht_nil)
        refine JAl_cons (i := 5) rfl rfl (jo_buildSlice rfl (bsl_22_1_0 _)) (fun _ => ⟨hsub_drop 1 rfl, fun _ h => h⟩) (fun b22 => ?_) ?_
        · refine JA_oneH (i := 4) (by kernel_rfl) rfl rfl (jo_appendK (e := encI) el_22 rfl rfl encI_one (by omega)) (fun _ => ⟨HIn.sub, Knows.know⟩) fun b21 => ?_
          refine JA_oneH (i := 6) (by kernel_rfl) rfl rfl (jo_append el_22 rfl rfl rfl rfl (by omega)) (fun _ => ⟨HIn.sub, Knows.know⟩) fun b23 => ?_
          refine JA_slice (enc := encI) (v := .slice (some ⟨b23.1, 0, none⟩) (0 + plan.length + 1) b23.2) (plan ++ [-1]) noFp (by simp [encI]) (by simp) ?_
          rintro ka kc hkv
          cases hkv
          refine JA_one (i := 7) (by kernel_rfl) rfl rfl (jo_callv rfl rfl Try.call29 rfl (hcall (-1) _ _)) (fun _ => ⟨hsub_refl, fun _ h => h⟩) fun _ => ?_
          refine JA_pd (i := 8) rfl (by kernel_rfl) rfl rfl (det_assign rfl) ?_
          refine JA_done (by kernel_rfl) ?_
          exact JE_cutF hK () trivial (stsub_cons rfl stsub_nil) (ht_nil)
        exact JAl_nil
      refine JAl_cons (i := 5) rfl rfl (jo_buildSlice rfl (bsl_22_1_0 _)) (fun _ => ⟨hsub_drop 1 rfl, fun _ h => h⟩) (fun b22 => ?_) ?_
      · refine JA_one (i := 2) (by kernel_rfl) rfl rfl (jo_buildOwn (z := 1) rfl (bsl_22_0) rfl (by decide)) (fun _ => ⟨hsub_drop 1 rfl, fun _ h => h⟩) fun b19 => ?_
        refine JA_oneH (i := 4) (by kernel_rfl) rfl rfl (jo_appendK (e := encI) el_22 rfl rfl encI_one (by omega)) (fun _ => ⟨HIn.sub, Knows.know⟩) fun b21 => ?_
        refine JA_oneH (i := 6) (by kernel_rfl) rfl rfl (jo_append el_22 rfl rfl rfl rfl (by omega)) (fun _ => ⟨HIn.sub, Knows.know⟩) fun b23 => ?_
        refine JA_slice (enc := encI) (v := .slice (some ⟨b23.1, 0, none⟩) (0 + plan.length + 1) b23.2) (plan ++ [-1]) noFp (by simp [encI]) (by simp) ?_
        rintro ka kc hkv
        cases hkv
        refine JA_one (i := 7) (by kernel_rfl) rfl rfl (jo_callv rfl rfl Try.call29 rfl (hcall (-1) _ _)) (fun _ => ⟨hsub_refl, fun _ h => h⟩) fun _ => ?_
        refine JA_pd (i := 8) rfl (by kernel_rfl) rfl rfl (det_assign rfl) ?_
        refine JA_done (by kernel_rfl) ?_
        exact JE_cutF hK () trivial (stsub_cons rfl stsub_nil) (ht_nil)
      exact JAl_nil
    dsimp only [List.cons_append, List.nil_append]
    refine JC_seq ?_
    refine JC_seq ?_
    refine JC_region ?_
    refine JL_pd rfl (det_assign rfl) ?_
    refine JL_nil ?_
    refine JE_seq ?_
    refine JC_block ?_
    -- stop: loop
    refine JC_keep b3 noFp ?_
    refine JC_pure (p := xs.length ≤ gc) (by intro w h; exact (Knows.know (F := KSl ga xs.length gc encG xs) w h).1.1) fun hgc => ?_
    refine JC_loopF (γ := Nat) (fun i => i ≤ k) (fun i => [(8, I i), (7, I ((List.range i).foldl f (mostV k (gs xs) n (plan ++ [-1]))))]) (fun _ => []) (fun i => k - i) 0 (Nat.zero_le _) (stsub_consI rfl rfl (stsub_consI rfl rfl stsub_nil)) ht_nil ?_
    intro i hi K hK
    dsimp only [List.cons_append, List.nil_append]
    have hs := hstep i
    generalize hF : (List.range i).foldl f (mostV k (gs xs) n (plan ++ [-1])) = F at hs
    refine JC_seq ?_
    refine JC_seq ?_
    refine JC_region ?_
    refine JL_pd rfl (det_move rfl) ?_
    refine JL_pd rfl (det_fieldAddr rfl fo_24_0) ?_
    refine JL_dt rfl (det_loadK rfl Try.isAgg3 rfl) ?_
    refine JL_pd rfl (det_lss rfl rfl) ?_
    refine JL_nil ?_
    refine JE_seq ?_
    -- stop: cond
    refine JC_if rfl (fun h2 => ?_) (fun h2 => ?_)
    · have hi2 : i < k := by omega
      refine JC_skip ?_
      refine JE_seq ?_
      refine JC_seq ?_
      refine JC_block ?_
      refine JC_seq ?_
      refine JC_region ?_
      refine JL_step rfl rfl rfl (jo_buildOwn (z := 1) rfl (bsl_22_0) rfl (by decide)) fun b31 => ?_
      refine JL_pd rfl (det_move rfl) ?_
      refine JL_step rfl rfl rfl (jo_appendK (e := encI) el_22 rfl rfl encI_one (by omega)) fun b33 => ?_
      refine JL_pd rfl (det_move rfl) ?_
      refine JL_step rfl rfl rfl (jo_buildSlice rfl (bsl_22_1_0 _)) fun b35 => ?_
      refine JL_step rfl rfl rfl (jo_append el_22 rfl rfl rfl rfl (by omega)) fun b36 => ?_
      refine JL_pd rfl (det_assign rfl) ?_
      refine JL_nil ?_
      refine JE_seq ?_
      refine JC_seq ?_
      refine JC_region ?_
      refine JL_pd rfl (det_move rfl) ?_
      refine JL_pd rfl (det_move rfl) ?_
      refine JL_pd rfl (det_len rfl Try.runUnderlying22) ?_
      refine JL_pd rfl (det_sliceK (plan.length + 1) rfl rfl (by simp) (by omega) Try.runUnderlying25 Try.sizeOf55) ?_
      refine JL_pd rfl (det_move rfl) ?_
      refine JL_slice (enc := encI) (v := .slice (some ⟨b36.1, 0, none⟩) (0 + plan.length + 1) b36.2) (plan ++ [(i : Int)]) noFp (by simp [encI]) (by simp) ?_
      rintro ka kc hkv
      cases hkv
      refine JL_know (R' := KAnd (KSl ga (plan.length + 1) gc encG (xs.take (plan.length + 1))) _) (fun w h => ⟨KSl_take (Knows.know (F := KSl ga xs.length gc encG xs) w h) (by omega), h⟩) ?_
      refine JL_step rfl rfl rfl (jo_callv rfl rfl Try.call28 rfl (hright (i : Int) _ _)) fun _ => ?_
      refine JL_nil ?_
      refine JE_seq ?_
      -- stop: cond
      refine JC_cond rfl (fun h3 => ?_) (fun h3 => ?_)
      · have hfi : f F i = max F (mostV k (gs xs) n (plan ++ [(i : Int)])) := by rw [← hf]; exact if_pos h3
        refine JC_region ?_
        refine JL_pd rfl (det_move rfl) ?_
        refine JL_dt rfl (det_loadKA rfl Try.isAgg24 Try.sizeOf24 rfl rfl) ?_
        refine JL_pd rfl (det_move rfl) ?_
        refine JL_pd rfl (det_move rfl) ?_
        refine JL_step rfl rfl rfl (jo_callv rfl rfl Try.call29 rfl (hcall (i : Int) _ _)) fun _ => ?_
        refine JL_pd rfl (det_max rfl rfl) ?_
        refine JL_pd rfl (det_assign rfl) ?_
        refine JL_nil ?_
        refine JE_block ?_
        refine JE_seq ?_
        refine JC_region ?_
        refine JL_pd rfl (det_move rfl) ?_
        refine JL_pd rfl (det_add rfl rfl ⟨by omega, by omega⟩) ?_
        refine JL_pd rfl (det_assign rfl) ?_
        refine JL_nil ?_
        -- stop: end
        refine JE_roundF hK (i + 1) (by omega) (by omega) (stsub_consI rfl (by omega) (stsub_consI rfl (by rw [hs, hfi]) stsub_nil)) ht_nil
      · have hfi : f F i = F := by rw [← hf]; exact if_neg (by rw [h3]; decide)
        refine JC_skip ?_
        refine JE_block ?_
        refine JE_seq ?_
        refine JC_region ?_
        refine JL_pd rfl (det_move rfl) ?_
        refine JL_pd rfl (det_add rfl rfl ⟨by omega, by omega⟩) ?_
        refine JL_pd rfl (det_assign rfl) ?_
        refine JL_nil ?_
        -- stop: end
        refine JE_roundF hK (i + 1) (by omega) (by omega) (stsub_consI rfl (by omega) (stsub_consI rfl (by rw [hs, hfi]) stsub_nil)) ht_nil
    · obtain rfl : i = k := by omega
      refine JC_exit ?_
      refine JE_seq_exit ?_
      refine JE_then_exit ?_
      refine JE_block_here ?_
      refine JE_seq ?_
      refine JC_seq ?_
      refine JC_region ?_
      refine JL_pd rfl (det_move rfl) ?_
      refine JL_pd rfl (det_assign rfl) ?_
      refine JL_nil ?_
      refine JE_seq ?_
      refine JC_ret ?_
      -- stop: out
      refine JE_out (.inl rfl) () (results1 Try.results29 (res_tmp rfl)) (by rw [hF]) (List.Perm.refl _) (fun _ _ => trivial)
end Go.Proofs.Ytkmaafnbefpdjaa

/- Own texts, laid together: E15 E16 E18 E19p. Nothing is asked. -/
import Derived.Test.YtkmaafnbefpdjaaB7
import Derived.Test.YtkmaafnbefpdjaaB3
set_option linter.unusedSimpArgs false
set_option linter.unusedVariables false
/- Walks of the laws and the reference of lend: copies, what is thin, what is valid. -/
namespace Go.Proofs.Ytkmaafnbefpdjaa
open Go.RowKit Go.Shelf

theorem snoc_len {α : Type} {l : List α} {i : Nat} (h : i < l.length) : (l.take i).length + 1 = (l.take (i + 1)).length := by rw [take_snoc h, List.length_append]; rfl
theorem snoc_flat {α : Type} (e : α → List Value) {l : List α} {i : Nat} (h : i < l.length) : (l.take i).flatMap e ++ e l[i] = (l.take (i + 1)).flatMap e := by rw [take_snoc h, List.flatMap_append, List.flatMap_cons, List.flatMap_nil, List.append_nil]
theorem encI_one (y : Int) : (encI y).all (·.oneCell') = true := rfl
theorem all_snoc {α : Type} {p : α → Bool} {l : List α} {i : Nat} (h : i < l.length) (h1 : (l.take i).all p = true) (h2 : p l[i] = true) : (l.take (i + 1)).all p = true := by
  rw [take_snoc h, List.all_append, h1]; simp [h2]
theorem all_no {α : Type} {p : α → Bool} {l : List α} {i : Nat} (h : i < l.length) (h2 : p l[i] = false) : l.all p = false := by
  cases ha : l.all p
  · rfl
  · have := List.all_eq_true.1 ha _ (List.getElem_mem h); rw [h2] at this; cases this
theorem lList_j (xs : List Int) (a : Option Addr) (cap : Nat) (hx : xs.length ≤ 1000000) : Cr Try.prog 23 [.slice a xs.length cap] (KSl a xs.length cap encI xs) (fun q : Option Addr × Nat => .slice q.1 xs.length q.2) (fun q => KSl q.1 xs.length q.2 encI xs) := by
  refine Cx_of Try.func23 rfl Try.ntmps23 rfl fun w0 M0 => ?_
  refine JC_seq ?_
  refine JC_region ?_
  refine JL_pd rfl (det_assign rfl) ?_
  refine JL_nil ?_
  refine JE_seq ?_
  refine JC_seq ?_
  refine JC_region ?_
  refine JL_pd rfl (det_move rfl) ?_
  -- stop: op  1 t4 := (call (Call (builtin append) ((slice none 0 0) t3) (22 22)))   <0>   11
  refine JL_nilS 3 1 ?_
  refine JL_step rfl rfl rfl (jo_appendK (e := encI) el_22 rfl rfl encI_one (by simpa using hx)) fun v => ?_
  refine JL_pd rfl (det_assign rfl) ?_
  refine JL_nil ?_
  refine JE_seq ?_
  refine JC_ret ?_
  -- stop: out
  refine JE_slice (enc := encI) (v := v) xs noFp (by simp) (by simp) ?_
  rintro a' cap' h
  subst h
  simp only [Nat.zero_add]
  refine JE_out (.inl rfl) (a', cap') (results1 Try.results23 (res_tmp rfl)) rfl (List.Perm.refl _) (fun w h => h.1)
set_option maxRecDepth 100000 in
theorem lHouse_j (x : Hx) (hx : x.h.shoes.length ≤ 1000000) : Cr Try.prog 19 [.agg #[I x.h.lanes, .slice x.a x.h.shoes.length x.c]] (KHx x) (fun q : Option Addr × Nat => .agg #[I x.h.lanes, .slice q.1 x.h.shoes.length q.2]) (fun q => KHx ⟨x.h, q.1, q.2⟩) := by
  refine Cx_of Try.func19 rfl Try.ntmps19 rfl fun w0 M0 => ?_
  refine JC_seq ?_
  refine JC_region ?_
  refine JL_step rfl rfl rfl (jo_box rfl rfl) fun b1 => ?_
  refine JL_step rfl rfl rfl (jo_alloc0 Try.zeroValue30 rfl) fun b2 => ?_
  refine JL_nil ?_
  refine JE_seq ?_
  refine JC_seq ?_
  -- stop: draw
  refine JC_keep b1 noFp ?_
  refine JC_cutK (γ := Option Addr × Nat) (fun _ => True) (fun x7 => [(2, pt b2)]) (fun x7 => [bx b2 [I x.h.lanes, .slice x7.1 x.h.shoes.length x7.2]]) (fun x7 => KSl x7.1 x.h.shoes.length x7.2 encI x.h.shoes) [] (fun K hK => ?_) (fun x7 _ => ?_)
  · refine JC_draw [6] (by kernel_rfl) ?_
    refine JA_pd (i := 0) rfl (by kernel_rfl) rfl rfl (det_fieldAddr rfl fo_24_0) ?_
    refine JA_dt (i := 1) rfl (by kernel_rfl) (by kernel_rfl) rfl rfl (det_loadK rfl Try.isAgg3 rfl) ?_
    refine JA_pd (i := 2) rfl (by kernel_rfl) rfl rfl (det_fieldAddr rfl fo_24_1) ?_
    refine JA_dt (i := 3) rfl (by kernel_rfl) (by kernel_rfl) rfl rfl (det_loadK rfl Try.isAgg22 rfl) ?_
    refine JA_one (i := 4) (by kernel_rfl) rfl rfl (jo_call rfl rfl Try.call23 rfl (lList_j x.h.shoes x.a x.c hx)) (fun _ => ⟨hsub_drop 0 rfl, fun _ h => h.2⟩) fun x7 => ?_
    refine JA_pd (i := 5) rfl (by kernel_rfl) rfl rfl (det_build rfl (bld_30_0_1 _ _ _ _)) ?_
    refine JA_tail (i := 6) (by kernel_rfl) rfl rfl rfl rfl (jo_store rfl rfl rfl (by first | (simp only [splice_norm]; done) | (simp only [splice_norm]; rfl) | rfl) Try.sizeOf30 rfl rfl) fun _ => ?_
    refine JT_done (by kernel_rfl) ?_
    exact JE_cutK hK x7 trivial (stsub_cons rfl stsub_nil) (ht_bx rfl ht_nil)
  dsimp only [List.cons_append, List.nil_append]
  refine JC_ret ?_
  -- stop: out
  refine JE_out (.inl rfl) x7 (results1 Try.results19 (res_box rfl Try.isAgg30 Try.sizeOf30 rfl)) rfl (List.Perm.refl _) (fun w h => h.1)
theorem KFt_snoc {ys : List Gx} {y : Gx} {w : World} (h : KFt ys w) (h2 : KSl y.a y.g.feet.length y.c encI y.g.feet w) : KFt (ys ++ [y]) w := fun x hx => by
  rcases List.mem_append.1 hx with hx | hx
  · exact h x hx
  · rw [List.mem_singleton.1 hx]; exact h2
set_option maxRecDepth 100000 in
theorem lGroups_j (a : Option Addr) (c : Nat) (xs : List Gx) (hn : xs.length ≤ 1000) (hf : ∀ x ∈ xs, x.g.feet.length ≤ 1000) : Cr Try.prog 20 [.slice a xs.length c] (KGs a c xs) (fun q : Option Addr × Nat × { ys : List Gx // gs ys = gs xs } => .slice q.1 q.2.2.1.length q.2.1) (fun q => KGs q.1 q.2.1 q.2.2.1) := by
  refine Cx_of Try.func20 rfl Try.ntmps20 rfl fun w0 M0 => ?_
  refine JC_seq ?_
  refine JC_region ?_
  refine JL_pd rfl (det_assign rfl) ?_
  refine JL_nil ?_
  refine JE_seq ?_
  refine JC_seq ?_
  refine JC_region ?_
  refine JL_pd rfl (det_assign rfl) ?_
  refine JL_nil ?_
  refine JE_seq ?_
  refine JC_seq ?_
  refine JC_seq ?_
  refine JC_region ?_
  refine JL_pd rfl (det_assign rfl) ?_
  refine JL_nil ?_
  refine JE_seq ?_
  refine JC_block ?_
  -- stop: loop
  refine JC_nil 81 4 ?_
  refine JC_loopK (γ := Nat × Value × List Gx) (fun q => q.1 ≤ xs.length ∧ gs q.2.2 = (gs xs).take q.1) (fun q => [(4, I q.1), (3, q.2.1)]) (fun q => [ow q.2.1 81 4 q.2.2.length (q.2.2.flatMap encG)]) (fun q => KFt q.2.2) (fun q => xs.length - q.1) (0, .slice none 0 0, []) ⟨Nat.zero_le _, rfl⟩ (stsub_consI rfl rfl (stsub_cons rfl stsub_nil)) (ht_ow rfl rfl ht_nil) (fun w _ => by intro x hx; cases hx) ?_
  rintro ⟨i, v, ys⟩ ⟨hi, hg⟩ K hK
  dsimp only [List.cons_append, List.nil_append] at hi hg ⊢
  have hyl : ys.length = i := by
    have := congrArg List.length hg
    simp only [gs, List.length_map, List.length_take] at this; omega
  refine JC_seq ?_
  refine JC_seq ?_
  refine JC_region ?_
  refine JL_pd rfl (det_move rfl) ?_
  refine JL_pd rfl (det_move rfl) ?_
  refine JL_pd rfl (det_len rfl Try.runUnderlying25) ?_
  refine JL_pd rfl (det_lss rfl rfl) ?_
  refine JL_nil ?_
  refine JE_seq ?_
  -- stop: cond
  refine JC_if rfl (fun h1 => ?_) (fun h1 => ?_)
  · have hi2 : i < xs.length := by omega
    have hfi := hf _ (List.getElem_mem hi2)
    refine JC_know (R' := KAnd (KSl xs[i].a xs[i].g.feet.length xs[i].c encI xs[i].g.feet) _) (fun w h => ⟨h.2.2 _ (List.getElem_mem hi2), h⟩) ?_
    refine JC_skip ?_
    refine JE_seq ?_
    refine JC_seq ?_
    refine JC_block ?_
    refine JC_draw [27] (by kernel_rfl) ?_
    refine JA_pd (i := 0) rfl (by kernel_rfl) rfl rfl (det_move rfl) ?_
    refine JA_pd (i := 1) rfl (by kernel_rfl) rfl rfl (det_move rfl) ?_
    refine JA_pd (i := 2) rfl (by kernel_rfl) rfl rfl (det_move rfl) ?_
    refine JA_dt (i := 3) rfl (by kernel_rfl) (by kernel_rfl) rfl rfl (det_indexAddr rfl rfl (by first | rfl | omega) (by first | assumption | omega | decide) Try.runUnderlying25 Try.sizeOf55) ?_
    refine JA_pd (i := 4) rfl (by kernel_rfl) rfl rfl (det_fieldAddrE rfl fo_55_0) ?_
    refine JA_dt (i := 5) rfl (by kernel_rfl) (by kernel_rfl) rfl rfl (det_loadEk rfl (by first | assumption | omega | decide) Try.isAgg3 rfl rfl) ?_
    refine JA_pd (i := 6) rfl (by kernel_rfl) rfl rfl (det_move rfl) ?_
    refine JA_pd (i := 7) rfl (by kernel_rfl) rfl rfl (det_move rfl) ?_
    refine JA_dt (i := 8) rfl (by kernel_rfl) (by kernel_rfl) rfl rfl (det_indexAddr rfl rfl (by first | rfl | omega) (by first | assumption | omega | decide) Try.runUnderlying25 Try.sizeOf55) ?_
    refine JA_pd (i := 9) rfl (by kernel_rfl) rfl rfl (det_fieldAddrE rfl fo_55_1) ?_
    refine JA_pd (i := 10) rfl (by kernel_rfl) rfl rfl (det_fieldAddrEk (k2 := 1) rfl fo_53_0 rfl) ?_
    refine JA_dt (i := 11) rfl (by kernel_rfl) (by kernel_rfl) rfl rfl (det_loadEk rfl (by first | assumption | omega | decide) Try.isAgg3 rfl rfl) ?_
    refine JA_pd (i := 12) rfl (by kernel_rfl) rfl rfl (det_move rfl) ?_
    refine JA_pd (i := 13) rfl (by kernel_rfl) rfl rfl (det_move rfl) ?_
    refine JA_dt (i := 14) rfl (by kernel_rfl) (by kernel_rfl) rfl rfl (det_indexAddr rfl rfl (by first | rfl | omega) (by first | assumption | omega | decide) Try.runUnderlying25 Try.sizeOf55) ?_
    refine JA_pd (i := 15) rfl (by kernel_rfl) rfl rfl (det_fieldAddrE rfl fo_55_1) ?_
    refine JA_pd (i := 16) rfl (by kernel_rfl) rfl rfl (det_fieldAddrEk (k2 := 2) rfl fo_53_1 rfl) ?_
    refine JA_dt (i := 17) rfl (by kernel_rfl) (by kernel_rfl) rfl rfl (det_loadEk rfl (by first | assumption | omega | decide) Try.isAgg3 rfl rfl) ?_
    refine JA_pd (i := 18) rfl (by kernel_rfl) rfl rfl (det_build rfl (bld_79_0_1 _ _)) ?_
    refine JA_pd (i := 19) rfl (by kernel_rfl) rfl rfl (det_move rfl) ?_
    refine JA_pd (i := 20) rfl (by kernel_rfl) rfl rfl (det_move rfl) ?_
    refine JA_dt (i := 21) rfl (by kernel_rfl) (by kernel_rfl) rfl rfl (det_indexAddr rfl rfl (by first | rfl | omega) (by first | assumption | omega | decide) Try.runUnderlying25 Try.sizeOf55) ?_
    refine JA_pd (i := 22) rfl (by kernel_rfl) rfl rfl (det_fieldAddrE rfl fo_55_2) ?_
    refine JA_dt (i := 23) rfl (by kernel_rfl) (by kernel_rfl) rfl rfl (det_loadEk rfl (by first | assumption | omega | decide) Try.isAgg22 rfl rfl) ?_
    refine JA_one (i := 24) (by kernel_rfl) rfl rfl (jo_call rfl rfl Try.call23 rfl (lList_j xs[i].g.feet xs[i].a xs[i].c (by omega))) (fun _ => ⟨hsub_drop 0 rfl, fun _ h => h.2⟩) fun x35 => ?_
    refine JA_pd (i := 25) rfl (by kernel_rfl) rfl rfl (det_build rfl (bld_81_0_1_2 _ _ _ _ _ _)) ?_
    refine JA_one (i := 26) (by kernel_rfl) rfl rfl (jo_buildSlice rfl (bsl_32_1_0 _ _ _ _ _ _)) (fun _ => ⟨hsub_drop 1 rfl, fun _ h => h⟩) fun b37 => ?_
    refine JA_tail (i := 27) (by kernel_rfl) rfl rfl rfl rfl (jo_append el_32 rfl rfl rfl rfl (by omega)) fun b38 => ?_
    refine JT_pd (i := 28) rfl (by kernel_rfl) rfl rfl (det_assign rfl) ?_
    refine JT_done (by kernel_rfl) ?_
    refine JE_block ?_
    refine JE_seq ?_
    refine JC_region ?_
    refine JL_pd rfl (det_move rfl) ?_
    refine JL_pd rfl (det_add rfl rfl ⟨by omega, by omega⟩) ?_
    refine JL_pd rfl (det_assign rfl) ?_
    refine JL_nil ?_
    -- stop: end
    refine JE_weak (R' := KAnd (KFt (ys ++ [(⟨xs[i].g, x35.1, x35.2⟩ : Gx)])) _) stsub_refl hsub_refl (fun w h => ⟨KFt_snoc (Knows.know w h) (Knows.know w h), h⟩) ?_
    refine JE_roundF hK (i + 1, .slice (some ⟨b38.1, 0, none⟩) (ys.length + 1) b38.2, ys ++ [(⟨xs[i].g, x35.1, x35.2⟩ : Gx)]) ⟨by simp only; omega, ?_⟩ (by simp only; omega) (stsub_consI rfl (by simp only; omega) (stsub_cons rfl stsub_nil)) (ht_ow (by simp) (by simp [encG]) ht_nil)
    simp only
    rw [take_snoc (by simp [gs]; omega), ← hg]
    simp [gs]
  · obtain rfl : i = xs.length := by omega
    rw [List.take_of_length_le (by simp [gs])] at hg
    refine JC_slice (enc := encG) (v := v) ys noFp rfl rfl ?_
    rintro av cv rfl
    refine JC_exit ?_
    refine JE_seq_exit ?_
    refine JE_then_exit ?_
    refine JE_block_here ?_
    refine JE_seq ?_
    refine JC_seq ?_
    refine JC_region ?_
    refine JL_pd rfl (det_move rfl) ?_
    refine JL_pd rfl (det_assign rfl) ?_
    refine JL_nil ?_
    refine JE_seq ?_
    refine JC_ret ?_
    -- stop: out
    refine JE_out (.inl rfl) (av, cv, ⟨ys, hg⟩) (results1 Try.results20 (res_tmp rfl)) rfl (List.Perm.refl _) (fun w h => ⟨h.1, h.2.1⟩)
def thinB (h : Hs) (l : List Gr) : Bool := ((l.take 13).all fun g => decide (g.feet.length ≤ 10)) && (decide (h.shoes.length ≤ 14) && decide (l.length ≤ 12))
theorem thin_lens {h : Hs} {l : List Gr} (q : thinB h l = true) : h.shoes.length ≤ 14 ∧ l.length ≤ 12 ∧ ∀ g ∈ l, g.feet.length ≤ 10 := by
  unfold thinB at q
  simp only [Bool.and_eq_true, decide_eq_true_eq] at q
  refine ⟨q.2.1, q.2.2, fun g hg => ?_⟩
  rw [List.take_of_length_le (by omega)] at q
  exact of_decide_eq_true (List.all_eq_true.1 q.1 g hg)
set_option maxRecDepth 100000 in
theorem Thin_j (x : Hx) (a : Option Addr) (c : Nat) (xs : List Gx) : Cv Try.prog 16 [.agg #[I x.h.lanes, .slice x.a x.h.shoes.length x.c], .slice a xs.length c] (KSl a xs.length c encG xs) (.bool (thinB x.h (gs xs))) := by
  have hgl : (gs xs).length = xs.length := List.length_map _
  have hall : ((gs xs).take 13).all (fun g => decide (g.feet.length ≤ 10)) = (xs.take 13).all fun y => decide (y.g.feet.length ≤ 10) := by
    rw [gs, ← List.map_take, List.all_map]; rfl
  refine Cx_of Try.func16 rfl Try.ntmps16 rfl fun w0 M0 => ?_
  refine JC_seq ?_
  refine JC_region ?_
  refine JL_step rfl rfl rfl (jo_box rfl rfl) fun b2 => ?_
  refine JL_pd rfl (det_assign rfl) ?_
  refine JL_nil ?_
  refine JE_seq ?_
  refine JC_seq ?_
  refine JC_seq ?_
  refine JC_region ?_
  refine JL_pd rfl (det_assign rfl) ?_
  refine JL_nil ?_
  refine JE_seq ?_
  refine JC_block ?_
  -- stop: loop
  refine JC_loopF (γ := Nat) (fun i => i ≤ xs.length ∧ i ≤ 13 ∧ (xs.take i).all (fun y => decide (y.g.feet.length ≤ 10)) = true) (fun i => [(5, I i)]) (fun _ => []) (fun i => xs.length - i) 0 ⟨Nat.zero_le _, Nat.zero_le _, rfl⟩ (stsub_consI rfl rfl stsub_nil) ht_nil ?_
  rintro i ⟨hi, hi13, hal⟩ K hK
  dsimp only [List.cons_append, List.nil_append]
  refine JC_seq ?_
  refine JC_seq ?_
  refine JC_region ?_
  refine JL_pd rfl (det_move rfl) ?_
  refine JL_pd rfl (det_move rfl) ?_
  refine JL_pd rfl (det_len rfl Try.runUnderlying25) ?_
  refine JL_pd rfl (det_lss rfl rfl) ?_
  refine JL_pd rfl (det_move rfl) ?_
  -- stop: guard 4
  refine JL_join1 3 13 (.bool (decide ((i : Int) < (xs.length : Int)) && decide ((i : Int) < 13))) (fun hj => ?_) ?_
  · refine JL_split (d0 := 10) rfl (fun q1 => ?_) (fun q1 => ?_)
    · refine JL_guard rfl rfl q1 ?_
      refine JL_pd rfl (det_move rfl) ?_
      refine JL_guard rfl rfl q1 ?_
      refine JL_pd rfl (det_lss rfl rfl) ?_
      refine JL_pd rfl (det_pick_t rfl q1 rfl) ?_
      exact hj (by kernel_rfl) (stsub_consB rfl (by clear hj; first | rfl | (simp only [q1, Bool.and_true, Bool.true_and, Bool.false_and, Bool.and_false, Bool.or_true, Bool.true_or, Bool.or_false, Bool.false_or, Bool.not_true, Bool.not_false]; done) | (simp [q1]; done) | (simp at q1; done) | (simp [q1] <;> omega) | (exfalso; simp at q1; omega)) stsub_nil)
    · refine JL_skip rfl rfl q1 rfl ?_
      refine JL_skip rfl rfl q1 rfl ?_
      refine JL_pd rfl (det_pick_f rfl q1 rfl) ?_
      exact hj (by kernel_rfl) (stsub_consB rfl (by clear hj; first | rfl | (simp only [q1, Bool.and_true, Bool.true_and, Bool.false_and, Bool.and_false, Bool.or_true, Bool.true_or, Bool.or_false, Bool.false_or, Bool.not_true, Bool.not_false]; done) | (simp [q1]; done) | (simp at q1; done) | (simp [q1] <;> omega) | (exfalso; simp at q1; omega)) stsub_nil)
  refine JL_nil ?_
  refine JE_seq ?_
  -- stop: cond
  refine JC_cond rfl (fun h1 => ?_) (fun h1 => ?_)
  · have h1' : i < xs.length ∧ i < 13 := by simp at h1; omega
    have hi2 := h1'.1
    have hi3 := h1'.2
    refine JC_skip ?_
    refine JE_seq ?_
    refine JC_seq ?_
    refine JC_block ?_
    refine JC_seq ?_
    refine JC_region ?_
    refine JL_pd rfl (det_move rfl) ?_
    refine JL_pd rfl (det_move rfl) ?_
    refine JL_dt rfl (det_indexAddr rfl rfl (by first | rfl | omega) (by first | assumption | omega | decide) Try.runUnderlying25 Try.sizeOf55) ?_
    refine JL_pd rfl (det_fieldAddrE rfl fo_55_2) ?_
    refine JL_dt rfl (det_loadEk rfl (by first | assumption | omega | decide) Try.isAgg22 rfl rfl) ?_
    refine JL_pd rfl (det_len rfl Try.runUnderlying22) ?_
    refine JL_pd rfl (det_gtr rfl rfl) ?_
    refine JL_nil ?_
    refine JE_seq ?_
    -- stop: cond
    refine JC_if rfl (fun h2 => ?_) (fun h2 => ?_)
    · refine JC_seq ?_
      refine JC_region ?_
      refine JL_pd rfl (det_assign rfl) ?_
      refine JL_nil ?_
      refine JE_seq ?_
      refine JC_ret ?_
      refine JE_block_ret ?_
      refine JE_seq_ret ?_
      refine JE_then_ret ?_
      refine JE_block_ret ?_
      refine JE_seq_ret ?_
      -- stop: out
      refine JE_out (.inl rfl) () (results1 Try.results16 (res_tmp rfl)) (by unfold thinB; rw [hall, all_no (i := i) (by rw [List.length_take]; omega) (by rw [List.getElem_take]; exact decide_eq_false (by omega)), Bool.false_and]) (List.Perm.refl _) (fun _ _ => trivial)
    · refine JC_skip ?_
      refine JE_block ?_
      refine JE_seq ?_
      refine JC_region ?_
      refine JL_pd rfl (det_move rfl) ?_
      refine JL_pd rfl (det_add rfl rfl ⟨by omega, by omega⟩) ?_
      refine JL_pd rfl (det_assign rfl) ?_
      refine JL_nil ?_
      -- stop: end
      refine JE_roundF hK (i + 1) ⟨by omega, by omega, all_snoc hi2 hal (decide_eq_true (by omega))⟩ (by omega) (stsub_consI rfl (by omega) stsub_nil) ht_nil
  · have h1' : ¬ (i < xs.length ∧ i < 13) := by rintro ⟨q1, q2⟩; simp at h1; have := h1 q1; omega
    have hal2 : (xs.take 13).all (fun y => decide (y.g.feet.length ≤ 10)) = true := by
      by_cases e : i = xs.length
      · rw [List.take_of_length_le (by omega)]; rwa [List.take_of_length_le (by omega)] at hal
      · obtain rfl : i = 13 := by omega
        exact hal
    refine JC_exit ?_
    refine JE_seq_exit ?_
    refine JE_then_exit ?_
    refine JE_block_here ?_
    refine JE_seq ?_
    refine JC_seq ?_
    refine JC_region ?_
    refine JL_pd rfl (det_fieldAddr rfl fo_24_1) ?_
    refine JL_dt rfl (det_loadK rfl Try.isAgg22 rfl) ?_
    refine JL_pd rfl (det_len rfl Try.runUnderlying22) ?_
    refine JL_pd rfl (det_leq rfl rfl) ?_
    refine JL_pd rfl (det_move rfl) ?_
    -- stop: guard 4
    refine JL_join1 5 4 (.bool (decide ((x.h.shoes.length : Int) ≤ 14) && decide ((xs.length : Int) ≤ 12))) (fun hj => ?_) ?_
    · refine JL_split (d0 := 27) rfl (fun q2 => ?_) (fun q2 => ?_)
      · refine JL_guard rfl rfl q2 ?_
        refine JL_pd rfl (det_move rfl) ?_
        refine JL_guard rfl rfl q2 ?_
        refine JL_pd rfl (det_len rfl Try.runUnderlying25) ?_
        refine JL_guard rfl rfl q2 ?_
        refine JL_pd rfl (det_leq rfl rfl) ?_
        refine JL_pd rfl (det_pick_t rfl q2 rfl) ?_
        refine JL_pd rfl (det_assign rfl) ?_
        exact hj (by kernel_rfl) (stsub_consB rfl (by clear hj; first | rfl | (simp only [q2, Bool.and_true, Bool.true_and, Bool.false_and, Bool.and_false, Bool.or_true, Bool.true_or, Bool.or_false, Bool.false_or, Bool.not_true, Bool.not_false]; done) | (simp [q2]; done) | (simp at q2; done) | (simp [q2] <;> omega) | (exfalso; simp at q2; omega)) stsub_nil)
      · refine JL_skip rfl rfl q2 rfl ?_
        refine JL_skip rfl rfl q2 rfl ?_
        refine JL_skip rfl rfl q2 rfl ?_
        refine JL_pd rfl (det_pick_f rfl q2 rfl) ?_
        refine JL_pd rfl (det_assign rfl) ?_
        exact hj (by kernel_rfl) (stsub_consB rfl (by clear hj; first | rfl | (simp only [q2, Bool.and_true, Bool.true_and, Bool.false_and, Bool.and_false, Bool.or_true, Bool.true_or, Bool.or_false, Bool.false_or, Bool.not_true, Bool.not_false]; done) | (simp [q2]; done) | (simp at q2; done) | (simp [q2] <;> omega) | (exfalso; simp at q2; omega)) stsub_nil)
    refine JL_nil ?_
    refine JE_seq ?_
    refine JC_ret ?_
    -- stop: out
    refine JE_out (.inl rfl) () (results1 Try.results16 (res_tmp rfl)) (by unfold thinB; rw [hall, hal2, hgl, Bool.true_and, show decide ((x.h.shoes.length : Int) ≤ 14) = decide (x.h.shoes.length ≤ 14) from decide_eq_decide.2 (by omega), show decide ((xs.length : Int) ≤ 12) = decide (xs.length ≤ 12) from decide_eq_decide.2 (by omega)]) (List.Perm.refl _) (fun _ _ => trivial)
theorem In_j (n lo hi : Int) : Cv Try.prog 31 [I n, I lo, I hi] KTrue (.bool (inI n lo hi)) := by
  refine Cx_of Try.func31 rfl Try.ntmps31 rfl fun w0 M0 => ?_
  refine JC_seq ?_
  refine JC_region ?_
  refine JL_pd rfl (det_assign rfl) ?_
  refine JL_nil ?_
  refine JE_seq ?_
  refine JC_seq ?_
  refine JC_region ?_
  refine JL_pd rfl (det_move rfl) ?_
  refine JL_pd rfl (det_move rfl) ?_
  refine JL_pd rfl (det_geq rfl rfl) ?_
  refine JL_pd rfl (det_move rfl) ?_
  refine JL_split (d0 := 10) rfl (fun h1 => ?_) (fun h1 => ?_)
  · refine JL_guard rfl rfl h1 ?_
    refine JL_pd rfl (det_move rfl) ?_
    refine JL_guard rfl rfl h1 ?_
    refine JL_pd rfl (det_move rfl) ?_
    refine JL_guard rfl rfl h1 ?_
    refine JL_pd rfl (det_leq rfl rfl) ?_
    refine JL_pd rfl (det_pick_t rfl h1 rfl) ?_
    refine JL_pd rfl (det_assign rfl) ?_
    refine JL_nil ?_
    refine JE_seq ?_
    refine JC_ret ?_
    refine JE_out (.inl rfl) () (results1 Try.results31 (res_tmp rfl)) ?_ (List.Perm.refl _) (fun _ _ => trivial)
    (simp_all [inI])
    (try omega)
  · refine JL_skip rfl rfl h1 rfl ?_
    refine JL_skip rfl rfl h1 rfl ?_
    refine JL_skip rfl rfl h1 rfl ?_
    refine JL_pd rfl (det_pick_f rfl h1 rfl) ?_
    refine JL_pd rfl (det_assign rfl) ?_
    refine JL_nil ?_
    refine JE_seq ?_
    refine JC_ret ?_
    refine JE_out (.inl rfl) () (results1 Try.results31 (res_tmp rfl)) ?_ (List.Perm.refl _) (fun _ _ => trivial)
    (simp_all [inI])
    (try omega)
set_option maxRecDepth 100000 in
theorem IsHouse_j (x : Hx) : Cv Try.prog 71 [.agg #[I x.h.lanes, .slice x.a x.h.shoes.length x.c]] (KHx x) (.bool (hsOk x.h)) := by
  refine Cx_of Try.func71 rfl Try.ntmps71 rfl fun w0 M0 => ?_
  refine JC_seq ?_
  refine JC_region ?_
  refine JL_step rfl rfl rfl (jo_box rfl rfl) fun b1 => ?_
  refine JL_pd rfl (det_assign rfl) ?_
  refine JL_nil ?_
  refine JE_seq ?_
  refine JC_seq ?_
  refine JC_seq ?_
  refine JC_region ?_
  refine JL_pd rfl (det_assign rfl) ?_
  refine JL_nil ?_
  refine JE_seq ?_
  refine JC_block ?_
  -- stop: loop
  refine JC_pure (p := x.h.shoes.length ≤ 9223372036854775807) (by intro w h; exact h.1.bd) fun hz => ?_
  refine JC_loopF (γ := Nat) (fun i => i ≤ x.h.shoes.length ∧ (x.h.shoes.take i).all (fun n => inI n 0 20) = true) (fun i => [(3, I i)]) (fun _ => []) (fun i => x.h.shoes.length - i) 0 ⟨Nat.zero_le _, rfl⟩ (stsub_consI rfl rfl stsub_nil) ht_nil ?_
  rintro i ⟨hi, hal⟩ K hK
  dsimp only [List.cons_append, List.nil_append]
  refine JC_seq ?_
  refine JC_seq ?_
  refine JC_region ?_
  refine JL_pd rfl (det_move rfl) ?_
  refine JL_pd rfl (det_fieldAddr rfl fo_24_1) ?_
  refine JL_dt rfl (det_loadK rfl Try.isAgg22 rfl) ?_
  refine JL_pd rfl (det_len rfl Try.runUnderlying22) ?_
  refine JL_pd rfl (det_lss rfl rfl) ?_
  refine JL_nil ?_
  refine JE_seq ?_
  -- stop: cond
  refine JC_if rfl (fun h1 => ?_) (fun h1 => ?_)
  · have hi2 : i < x.h.shoes.length := by omega
    refine JC_skip ?_
    refine JE_seq ?_
    refine JC_seq ?_
    refine JC_block ?_
    refine JC_seq ?_
    refine JC_region ?_
    refine JL_pd rfl (det_fieldAddr rfl fo_24_1) ?_
    refine JL_dt rfl (det_loadK rfl Try.isAgg22 rfl) ?_
    refine JL_pd rfl (det_move rfl) ?_
    refine JL_dt rfl (det_indexAddr rfl rfl (by first | rfl | omega) (by first | assumption | omega | decide) Try.runUnderlying22 Try.sizeOf3) ?_
    refine JL_dt rfl (det_loadE rfl (by first | assumption | omega | decide) Try.isAgg3 rfl rfl) ?_
    refine JL_step rfl rfl rfl (jo_callv rfl rfl Try.call31 rfl (In_j _ _ _)) fun _ => ?_
    refine JL_pd rfl (det_not rfl) ?_
    refine JL_nil ?_
    refine JE_seq ?_
    -- stop: cond
    refine JC_cond rfl (fun h2 => ?_) (fun h2 => ?_)
    · refine JC_seq ?_
      refine JC_region ?_
      refine JL_pd rfl (det_assign rfl) ?_
      refine JL_nil ?_
      refine JE_seq ?_
      refine JC_ret ?_
      refine JE_block_ret ?_
      refine JE_seq_ret ?_
      refine JE_then_ret ?_
      refine JE_block_ret ?_
      refine JE_seq_ret ?_
      -- stop: out
      refine JE_out (.inl rfl) () (results1 Try.results71 (res_tmp rfl)) (by rw [eqHs, all_no (p := fun n => inI n 0 20) hi2 (by simpa using h2)]; simp) (List.Perm.refl _) (fun _ _ => trivial)
    · refine JC_skip ?_
      refine JE_block ?_
      refine JE_seq ?_
      refine JC_region ?_
      refine JL_pd rfl (det_move rfl) ?_
      refine JL_pd rfl (det_add rfl rfl ⟨by omega, by omega⟩) ?_
      refine JL_pd rfl (det_assign rfl) ?_
      refine JL_nil ?_
      -- stop: end
      refine JE_roundF hK (i + 1) ⟨by omega, all_snoc (p := fun n => inI n 0 20) hi2 hal (by simpa using h2)⟩ (by omega) (stsub_consI rfl (by omega) stsub_nil) ht_nil
  · obtain rfl : i = x.h.shoes.length := by omega
    rw [List.take_length] at hal
    refine JC_exit ?_
    refine JE_seq_exit ?_
    refine JE_then_exit ?_
    refine JE_block_here ?_
    refine JE_seq ?_
    refine JC_seq ?_
    refine JC_region ?_
    refine JL_pd rfl (det_fieldAddr rfl fo_24_0) ?_
    refine JL_dt rfl (det_loadK rfl Try.isAgg3 rfl) ?_
    refine JL_step rfl rfl rfl (jo_callv rfl rfl Try.call31 rfl (In_j _ _ _)) fun _ => ?_
    refine JL_pd rfl (det_move rfl) ?_
    -- stop: guard 3
    refine JL_join1 6 2 (.bool (inI x.h.lanes 0 5 && decide ((x.h.shoes.length : Int) = 10))) (fun hj => ?_) ?_
    · refine JL_split (d0 := 21) rfl (fun q2 => ?_) (fun q2 => ?_)
      · refine JL_guard rfl rfl q2 ?_
        refine JL_pd rfl (det_fieldAddr rfl fo_24_1) ?_
        refine JL_guard rfl rfl q2 ?_
        refine JL_dt rfl (det_loadK rfl Try.isAgg22 rfl) ?_
        refine JL_guard rfl rfl q2 ?_
        refine JL_pd rfl (det_len rfl Try.runUnderlying22) ?_
        refine JL_guard rfl rfl q2 ?_
        refine JL_pd rfl (det_eql rfl rfl) ?_
        refine JL_pd rfl (det_pick_t rfl q2 rfl) ?_
        refine JL_pd rfl (det_assign rfl) ?_
        exact hj (by kernel_rfl) (stsub_consB rfl (by clear hj; first | rfl | (simp only [q2, Bool.and_true, Bool.true_and, Bool.false_and, Bool.and_false, Bool.or_true, Bool.true_or, Bool.or_false, Bool.false_or, Bool.not_true, Bool.not_false]; done) | (simp [q2]; done) | (simp at q2; done) | (simp [q2] <;> omega) | (exfalso; simp at q2; omega)) stsub_nil)
      · refine JL_skip rfl rfl q2 rfl ?_
        refine JL_skip rfl rfl q2 rfl ?_
        refine JL_skip rfl rfl q2 rfl ?_
        refine JL_skip rfl rfl q2 rfl ?_
        refine JL_pd rfl (det_pick_f rfl q2 rfl) ?_
        refine JL_pd rfl (det_assign rfl) ?_
        exact hj (by kernel_rfl) (stsub_consB rfl (by clear hj; first | rfl | (simp only [q2, Bool.and_true, Bool.true_and, Bool.false_and, Bool.and_false, Bool.or_true, Bool.true_or, Bool.or_false, Bool.false_or, Bool.not_true, Bool.not_false]; done) | (simp [q2]; done) | (simp at q2; done) | (simp [q2] <;> omega) | (exfalso; simp at q2; omega)) stsub_nil)
    refine JL_nil ?_
    refine JE_seq ?_
    refine JC_ret ?_
    -- stop: out
    refine JE_out (.inl rfl) () (results1 Try.results71 (res_tmp rfl)) (by rw [eqHs, hal, Bool.and_true, show decide ((x.h.shoes.length : Int) = 10) = decide (x.h.shoes.length = 10) from decide_eq_decide.2 (by omega)]) (List.Perm.refl _) (fun _ _ => trivial)
set_option maxRecDepth 100000 in
theorem Sized_j (a : Option Addr) (cap : Nat) (l : List Int) : Cv Try.prog 72 [.slice a l.length cap] (KSl a l.length cap encI l) (.bool (l.all fun n => inI n 0 9)) := by
  refine Cx_of Try.func72 rfl Try.ntmps72 rfl fun w0 M0 => ?_
  refine JC_seq ?_
  refine JC_region ?_
  refine JL_pd rfl (det_assign rfl) ?_
  refine JL_nil ?_
  refine JE_seq ?_
  refine JC_seq ?_
  refine JC_seq ?_
  refine JC_region ?_
  refine JL_pd rfl (det_assign rfl) ?_
  refine JL_nil ?_
  refine JE_seq ?_
  refine JC_block ?_
  -- stop: loop
  refine JC_pure (p := l.length ≤ 9223372036854775807) (by intro w h; exact h.1.bd) fun hz => ?_
  refine JC_loopF (γ := Nat) (fun i => i ≤ l.length ∧ (l.take i).all (fun n => inI n 0 9) = true) (fun i => [(3, I i)]) (fun _ => []) (fun i => l.length - i) 0 ⟨Nat.zero_le _, rfl⟩ (stsub_consI rfl rfl stsub_nil) ht_nil ?_
  rintro i ⟨hi, hal⟩ K hK
  dsimp only [List.cons_append, List.nil_append]
  refine JC_seq ?_
  refine JC_seq ?_
  refine JC_region ?_
  refine JL_pd rfl (det_move rfl) ?_
  refine JL_pd rfl (det_move rfl) ?_
  refine JL_pd rfl (det_len rfl Try.runUnderlying22) ?_
  refine JL_pd rfl (det_lss rfl rfl) ?_
  refine JL_nil ?_
  refine JE_seq ?_
  -- stop: cond
  refine JC_if rfl (fun h1 => ?_) (fun h1 => ?_)
  · have hi2 : i < l.length := by omega
    refine JC_skip ?_
    refine JE_seq ?_
    refine JC_seq ?_
    refine JC_block ?_
    refine JC_seq ?_
    refine JC_region ?_
    refine JL_pd rfl (det_move rfl) ?_
    refine JL_pd rfl (det_move rfl) ?_
    refine JL_dt rfl (det_indexAddr rfl rfl (by first | rfl | omega) (by first | assumption | omega | decide) Try.runUnderlying22 Try.sizeOf3) ?_
    refine JL_dt rfl (det_loadE rfl (by first | assumption | omega | decide) Try.isAgg3 rfl rfl) ?_
    refine JL_step rfl rfl rfl (jo_callv rfl rfl Try.call31 rfl (In_j _ _ _)) fun _ => ?_
    refine JL_pd rfl (det_not rfl) ?_
    refine JL_nil ?_
    refine JE_seq ?_
    -- stop: cond
    refine JC_cond rfl (fun h2 => ?_) (fun h2 => ?_)
    · refine JC_seq ?_
      refine JC_region ?_
      refine JL_pd rfl (det_assign rfl) ?_
      refine JL_nil ?_
      refine JE_seq ?_
      refine JC_ret ?_
      refine JE_block_ret ?_
      refine JE_seq_ret ?_
      refine JE_then_ret ?_
      refine JE_block_ret ?_
      refine JE_seq_ret ?_
      -- stop: out
      refine JE_out (.inl rfl) () (results1 Try.results72 (res_tmp rfl)) (by rw [all_no (p := fun n => inI n 0 9) hi2 (by simpa using h2)]) (List.Perm.refl _) (fun _ _ => trivial)
    · refine JC_skip ?_
      refine JE_block ?_
      refine JE_seq ?_
      refine JC_region ?_
      refine JL_pd rfl (det_move rfl) ?_
      refine JL_pd rfl (det_add rfl rfl ⟨by omega, by omega⟩) ?_
      refine JL_pd rfl (det_assign rfl) ?_
      refine JL_nil ?_
      -- stop: end
      refine JE_roundF hK (i + 1) ⟨by omega, all_snoc (p := fun n => inI n 0 9) hi2 hal (by simpa using h2)⟩ (by omega) (stsub_consI rfl (by omega) stsub_nil) ht_nil
  · obtain rfl : i = l.length := by omega
    rw [List.take_length] at hal
    refine JC_exit ?_
    refine JE_seq_exit ?_
    refine JE_then_exit ?_
    refine JE_block_here ?_
    refine JE_seq ?_
    refine JC_seq ?_
    refine JC_region ?_
    refine JL_pd rfl (det_assign rfl) ?_
    refine JL_nil ?_
    refine JE_seq ?_
    refine JC_ret ?_
    -- stop: out
    refine JE_out (.inl rfl) () (results1 Try.results72 (res_tmp rfl)) (by rw [hal]) (List.Perm.refl _) (fun _ _ => trivial)
theorem Stays_j (x : Gx) (t : Int) : Cv Try.prog 68 [.agg #[I x.g.fr, I x.g.lo, I x.g.hi, .slice x.a x.g.feet.length x.c], I t] KTrue (.bool (stays x.g t)) := by
  refine Cx_of Try.func68 rfl Try.ntmps68 rfl fun w0 M0 => ?_
  refine JC_seq ?_
  refine JC_region ?_
  refine JL_step rfl rfl rfl (jo_box rfl rfl) fun b2 => ?_
  refine JL_pd rfl (det_assign rfl) ?_
  refine JL_nil ?_
  refine JE_seq ?_
  refine JC_seq ?_
  refine JC_region ?_
  refine JL_pd rfl (det_move rfl) ?_
  refine JL_pd rfl (det_fieldAddr rfl fo_55_0) ?_
  refine JL_dt rfl (det_loadK rfl Try.isAgg3 rfl) ?_
  refine JL_pd rfl (det_fieldAddr rfl fo_55_1) ?_
  refine JL_pd rfl (det_fieldAddr rfl fo_53_1) ?_
  refine JL_dt rfl (det_loadK rfl Try.isAgg3 rfl) ?_
  refine JL_step rfl rfl rfl (jo_callv rfl rfl Try.call31 rfl (In_j _ _ _)) fun _ => ?_
  refine JL_pd rfl (det_assign rfl) ?_
  refine JL_nil ?_
  refine JE_seq ?_
  refine JC_ret ?_
  refine JE_out (.inl rfl) () (results1 Try.results68 (res_tmp rfl)) ?_ (List.Perm.refl _) (fun _ _ => trivial)
  rfl
theorem eqGr (g : Gr) : grOk g = (inI g.fr 0 30 && (decide (g.fr ≤ g.lo) && (decide (g.lo ≤ g.hi) && (inI g.hi 0 30 && g.feet.all fun n => inI n 0 9)))) := rfl
theorem grOk_r (g : Gr) : (!inI g.fr 0 30 || !inI g.lo g.fr g.hi || decide (30 < g.hi) || !(g.feet.all fun n => inI n 0 9)) = !grOk g := by
  rw [eqGr]
  rw [Bool.eq_iff_iff]
  simp only [inI, Bool.or_eq_true, Bool.not_eq_true', decide_eq_false_iff_not, decide_eq_true_eq, Bool.and_eq_false_iff]
  cases (g.feet.all fun n => decide (0 ≤ n ∧ n ≤ 9))
  · simp
  · simp; omega
set_option maxRecDepth 100000 in
set_option maxHeartbeats 1000000 in
theorem Fault_j (x : Hx) (a : Option Addr) (c : Nat) (xs : List Gx) : Cv Try.prog 67 [.agg #[I x.h.lanes, .slice x.a x.h.shoes.length x.c], .slice a xs.length c] (KAnd (KHx x) (KGs a c xs)) (I (fault x.h (gs xs))) := by
  have e1 : (gs xs).all few = xs.all fun x => few x.g := by simp [gs]; rfl
  have e2 : (gs xs).all grOk = xs.all fun x => grOk x.g := by simp [gs]; rfl
  have e3 : (gs xs).length = xs.length := List.length_map _
  have e4 : fault x.h (gs xs) = if hsOk x.h = false then 1 else if 8 < xs.length ∨ (xs.all fun x => few x.g) = false then 3 else if (xs.all fun x => grOk x.g) = false then 1 else 0 := by unfold fault; rw [e1, e2, e3]
  refine Cx_of Try.func67 rfl Try.ntmps67 rfl fun w0 M0 => ?_
  refine JC_seq ?_
  refine JC_region ?_
  refine JL_step rfl rfl rfl (jo_box rfl rfl) fun b2 => ?_
  refine JL_pd rfl (det_assign rfl) ?_
  refine JL_nil ?_
  refine JE_seq ?_
  refine JC_seq ?_
  refine JC_seq ?_
  refine JC_region ?_
  refine JL_dt rfl (det_loadKA rfl Try.isAgg24 Try.sizeOf24 rfl rfl) ?_
  refine JL_step rfl rfl rfl (jo_callv rfl rfl Try.call71 rfl (IsHouse_j x)) fun _ => ?_
  refine JL_pd rfl (det_not rfl) ?_
  refine JL_nil ?_
  refine JE_seq ?_
  -- stop: cond
  refine JC_cond rfl (fun h1 => ?_) (fun h1 => ?_)
  · refine JC_seq ?_
    refine JC_region ?_
    refine JL_pd rfl (det_assign rfl) ?_
    refine JL_nil ?_
    refine JE_seq ?_
    refine JC_ret ?_
    refine JE_seq_ret ?_
    -- stop: out
    refine JE_out (.inl rfl) () (results1 Try.results67 (res_tmp rfl)) (by rw [e4, if_pos (by simpa using h1)]) (List.Perm.refl _) (fun _ _ => trivial)
  · have h1' : ¬ hsOk x.h = false := by simpa using h1
    refine JC_skip ?_
    refine JE_seq ?_
    refine JC_seq ?_
    refine JC_seq ?_
    refine JC_region ?_
    refine JL_pd rfl (det_move rfl) ?_
    refine JL_pd rfl (det_len rfl Try.runUnderlying25) ?_
    refine JL_pd rfl (det_gtr rfl rfl) ?_
    refine JL_nil ?_
    refine JE_seq ?_
    -- stop: cond
    refine JC_if rfl (fun h2 => ?_) (fun h2 => ?_)
    · refine JC_seq ?_
      refine JC_region ?_
      refine JL_pd rfl (det_assign rfl) ?_
      refine JL_nil ?_
      refine JE_seq ?_
      refine JC_ret ?_
      refine JE_seq_ret ?_
      -- stop: out
      refine JE_out (.inl rfl) () (results1 Try.results67 (res_tmp rfl)) (by rw [e4, if_neg h1', if_pos (.inl (by omega))]) (List.Perm.refl _) (fun _ _ => trivial)
    · have hn : xs.length ≤ 8 := by omega
      refine JC_skip ?_
      refine JE_seq ?_
      refine JC_seq ?_
      refine JC_seq ?_
      refine JC_region ?_
      refine JL_pd rfl (det_assign rfl) ?_
      refine JL_nil ?_
      refine JE_seq ?_
      refine JC_block ?_
      -- stop: loop
      refine JC_loopF (γ := Nat) (fun i => i ≤ xs.length ∧ (xs.take i).all (fun y => few y.g) = true) (fun i => [(5, I i)]) (fun _ => []) (fun i => xs.length - i) 0 ⟨Nat.zero_le _, rfl⟩ (stsub_consI rfl rfl stsub_nil) ht_nil ?_
      rintro i ⟨hi, hal⟩ K hK
      dsimp only [List.cons_append, List.nil_append]
      refine JC_seq ?_
      refine JC_seq ?_
      refine JC_region ?_
      refine JL_pd rfl (det_move rfl) ?_
      refine JL_pd rfl (det_move rfl) ?_
      refine JL_pd rfl (det_len rfl Try.runUnderlying25) ?_
      refine JL_pd rfl (det_lss rfl rfl) ?_
      refine JL_nil ?_
      refine JE_seq ?_
      -- stop: cond
      refine JC_if rfl (fun h3 => ?_) (fun h3 => ?_)
      · have hi2 : i < xs.length := by omega
        refine JC_skip ?_
        refine JE_seq ?_
        refine JC_seq ?_
        refine JC_block ?_
        refine JC_seq ?_
        refine JC_region ?_
        refine JL_pd rfl (det_move rfl) ?_
        refine JL_pd rfl (det_move rfl) ?_
        refine JL_dt rfl (det_indexAddr rfl rfl (by first | rfl | omega) (by first | assumption | omega | decide) Try.runUnderlying25 Try.sizeOf55) ?_
        refine JL_pd rfl (det_fieldAddrE rfl fo_55_2) ?_
        refine JL_dt rfl (det_loadEk rfl (by first | assumption | omega | decide) Try.isAgg22 rfl rfl) ?_
        refine JL_pd rfl (det_len rfl Try.runUnderlying22) ?_
        refine JL_pd rfl (det_gtr rfl rfl) ?_
        refine JL_nil ?_
        refine JE_seq ?_
        -- stop: cond
        refine JC_if rfl (fun h4 => ?_) (fun h4 => ?_)
        · refine JC_seq ?_
          refine JC_region ?_
          refine JL_pd rfl (det_assign rfl) ?_
          refine JL_nil ?_
          refine JE_seq ?_
          refine JC_ret ?_
          refine JE_block_ret ?_
          refine JE_seq_ret ?_
          refine JE_then_ret ?_
          refine JE_block_ret ?_
          refine JE_seq_ret ?_
          -- stop: out
          refine JE_out (.inl rfl) () (results1 Try.results67 (res_tmp rfl)) (by rw [e4, if_neg h1', if_pos (.inr (all_no (p := fun y : Gx => few y.g) hi2 (decide_eq_false (by omega))))]) (List.Perm.refl _) (fun _ _ => trivial)
        · refine JC_skip ?_
          refine JE_block ?_
          refine JE_seq ?_
          refine JC_region ?_
          refine JL_pd rfl (det_move rfl) ?_
          refine JL_pd rfl (det_add rfl rfl ⟨by omega, by omega⟩) ?_
          refine JL_pd rfl (det_assign rfl) ?_
          refine JL_nil ?_
          -- stop: end
          refine JE_roundF hK (i + 1) ⟨by omega, all_snoc (p := fun y : Gx => few y.g) hi2 hal (decide_eq_true (by omega))⟩ (by omega) (stsub_consI rfl (by omega) stsub_nil) ht_nil
      · obtain rfl : i = xs.length := by omega
        rw [List.take_length] at hal
        have h5 : ¬ (8 < xs.length ∨ (xs.all fun y => few y.g) = false) := by rw [hal]; simp; omega
        refine JC_exit ?_
        refine JE_seq_exit ?_
        refine JE_then_exit ?_
        refine JE_block_here ?_
        refine JE_seq ?_
        refine JC_seq ?_
        refine JC_seq ?_
        refine JC_region ?_
        refine JL_pd rfl (det_assign rfl) ?_
        refine JL_nil ?_
        refine JE_seq ?_
        refine JC_block ?_
        -- stop: loop
        refine JC_loopF (γ := Nat) (fun i => i ≤ xs.length ∧ (xs.take i).all (fun y => grOk y.g) = true) (fun i => [(6, I i)]) (fun _ => []) (fun i => xs.length - i) 0 ⟨Nat.zero_le _, rfl⟩ (stsub_consI rfl rfl stsub_nil) ht_nil ?_
        rintro i ⟨hi, hgr⟩ K' hK'
        dsimp only [List.cons_append, List.nil_append]
        refine JC_seq ?_
        refine JC_seq ?_
        refine JC_region ?_
        refine JL_pd rfl (det_move rfl) ?_
        refine JL_pd rfl (det_move rfl) ?_
        refine JL_pd rfl (det_len rfl Try.runUnderlying25) ?_
        refine JL_pd rfl (det_lss rfl rfl) ?_
        refine JL_nil ?_
        refine JE_seq ?_
        -- stop: cond
        refine JC_if rfl (fun h6 => ?_) (fun h6 => ?_)
        · have hi2 : i < xs.length := by omega
          have hgk := grOk_r xs[i].g
          refine JC_know (R' := KAnd (KSl xs[i].a xs[i].g.feet.length xs[i].c encI xs[i].g.feet) _) (fun w h => ⟨(Knows.know (F := KFt xs) w h) _ (List.getElem_mem hi2), h⟩) ?_
          refine JC_skip ?_
          refine JE_seq ?_
          refine JC_seq ?_
          refine JC_block ?_
          refine JC_seq ?_
          refine JC_region ?_
          refine JL_pd rfl (det_move rfl) ?_
          refine JL_pd rfl (det_move rfl) ?_
          refine JL_dt rfl (det_indexAddr rfl rfl (by first | rfl | omega) (by first | assumption | omega | decide) Try.runUnderlying25 Try.sizeOf55) ?_
          refine JL_dt rfl (det_loadEA rfl (by first | assumption | omega | decide) Try.isAgg55 Try.sizeOf55 rfl rfl rfl) ?_
          refine JL_step rfl rfl rfl (jo_alloc0 Try.zeroValue55 rfl) fun b7 => ?_
          refine JL_step0 rfl rfl (jo_store rfl rfl rfl (by first | (simp only [splice_norm]; done) | (simp only [splice_norm]; rfl) | rfl) Try.sizeOf55 rfl rfl) fun _ => ?_
          refine JL_nil ?_
          refine JE_seq ?_
          refine JC_seq ?_
          refine JC_region ?_
          refine JL_pd rfl (det_fieldAddr rfl fo_55_0) ?_
          refine JL_dt rfl (det_loadK rfl Try.isAgg3 rfl) ?_
          refine JL_step rfl rfl rfl (jo_callv rfl rfl Try.call31 rfl (In_j _ _ _)) fun _ => ?_
          refine JL_pd rfl (det_not rfl) ?_
          refine JL_pd rfl (det_move rfl) ?_
          -- stop: guard 4
          refine JL_join1 23 64 (.bool (!inI xs[i].g.fr 0 30 || !inI xs[i].g.lo xs[i].g.fr xs[i].g.hi || decide (30 < xs[i].g.hi) || !(xs[i].g.feet.all fun n => inI n 0 9))) (fun hj => ?_) ?_
          · refine JL_split (d0 := 41) rfl (fun q1 => ?_) (fun q1 => ?_)
            · refine JL_skip rfl rfl q1 rfl ?_
              refine JL_skip rfl rfl q1 rfl ?_
              refine JL_skip rfl rfl q1 rfl ?_
              refine JL_skip rfl rfl q1 rfl ?_
              refine JL_skip rfl rfl q1 rfl ?_
              refine JL_skip rfl rfl q1 rfl ?_
              refine JL_skip rfl rfl q1 rfl ?_
              refine JL_skip rfl rfl q1 rfl ?_
              refine JL_skip rfl rfl q1 rfl ?_
              refine JL_skip rfl rfl q1 rfl ?_
              refine JL_pd rfl (det_pick_t rfl q1 rfl) ?_
              refine JL_pd rfl (det_move rfl) ?_
              refine JL_skip rfl rfl rfl rfl ?_
              refine JL_skip rfl rfl rfl rfl ?_
              refine JL_skip rfl rfl rfl rfl ?_
              refine JL_skip rfl rfl rfl rfl ?_
              refine JL_pd rfl (det_pick_t rfl rfl rfl) ?_
              refine JL_pd rfl (det_move rfl) ?_
              refine JL_skip rfl rfl rfl rfl ?_
              refine JL_skip rfl rfl rfl rfl ?_
              refine JL_skip rfl rfl rfl rfl ?_
              refine JL_skip rfl rfl rfl rfl ?_
              refine JL_pd rfl (det_pick_t rfl rfl rfl) ?_
              exact hj (by kernel_rfl) (stsub_consB rfl (by clear hj; first | rfl | (simp only [q1, Bool.and_true, Bool.true_and, Bool.false_and, Bool.and_false, Bool.or_true, Bool.true_or, Bool.or_false, Bool.false_or, Bool.not_true, Bool.not_false]; done) | (simp [q1]; done) | (simp at q1; done) | (simp [q1] <;> omega) | (exfalso; simp at q1; omega)) stsub_nil)
            · refine JL_guard rfl rfl q1 ?_
              refine JL_pd rfl (det_fieldAddr rfl fo_55_1) ?_
              refine JL_guard rfl rfl q1 ?_
              refine JL_pd rfl (det_fieldAddr rfl fo_53_0) ?_
              refine JL_guard rfl rfl q1 ?_
              refine JL_dt rfl (det_loadK rfl Try.isAgg3 rfl) ?_
              refine JL_guard rfl rfl q1 ?_
              refine JL_pd rfl (det_fieldAddr rfl fo_55_0) ?_
              refine JL_guard rfl rfl q1 ?_
              refine JL_dt rfl (det_loadK rfl Try.isAgg3 rfl) ?_
              refine JL_guard rfl rfl q1 ?_
              refine JL_pd rfl (det_fieldAddr rfl fo_55_1) ?_
              refine JL_guard rfl rfl q1 ?_
              refine JL_pd rfl (det_fieldAddr rfl fo_53_1) ?_
              refine JL_guard rfl rfl q1 ?_
              refine JL_dt rfl (det_loadK rfl Try.isAgg3 rfl) ?_
              refine JL_guard rfl rfl q1 ?_
              refine JL_step rfl rfl rfl (jo_callv rfl rfl Try.call31 rfl (In_j _ _ _)) fun _ => ?_
              refine JL_guard rfl rfl q1 ?_
              refine JL_pd rfl (det_not rfl) ?_
              refine JL_pd rfl (det_pick_f rfl q1 rfl) ?_
              refine JL_pd rfl (det_move rfl) ?_
              refine JL_split (d0 := 53) rfl (fun q2 => ?_) (fun q2 => ?_)
              · refine JL_skip rfl rfl q2 rfl ?_
                refine JL_skip rfl rfl q2 rfl ?_
                refine JL_skip rfl rfl q2 rfl ?_
                refine JL_skip rfl rfl q2 rfl ?_
                refine JL_pd rfl (det_pick_t rfl q2 rfl) ?_
                refine JL_pd rfl (det_move rfl) ?_
                refine JL_skip rfl rfl rfl rfl ?_
                refine JL_skip rfl rfl rfl rfl ?_
                refine JL_skip rfl rfl rfl rfl ?_
                refine JL_skip rfl rfl rfl rfl ?_
                refine JL_pd rfl (det_pick_t rfl rfl rfl) ?_
                exact hj (by kernel_rfl) (stsub_consB rfl (by clear hj; first | rfl | (simp only [q1, q2, Bool.and_true, Bool.true_and, Bool.false_and, Bool.and_false, Bool.or_true, Bool.true_or, Bool.or_false, Bool.false_or, Bool.not_true, Bool.not_false]; done) | (simp [q1, q2]; done) | (simp at q1; done) | (simp at q2; done) | (simp [q1, q2] <;> omega) | (exfalso; simp at q1 q2; omega) | (simp [q2] at q1; done) | (simp [q1] at q2; done)) stsub_nil)
              · refine JL_guard rfl rfl q2 ?_
                refine JL_pd rfl (det_fieldAddr rfl fo_55_1) ?_
                refine JL_guard rfl rfl q2 ?_
                refine JL_pd rfl (det_fieldAddr rfl fo_53_1) ?_
                refine JL_guard rfl rfl q2 ?_
                refine JL_dt rfl (det_loadK rfl Try.isAgg3 rfl) ?_
                refine JL_guard rfl rfl q2 ?_
                refine JL_pd rfl (det_gtr rfl rfl) ?_
                refine JL_pd rfl (det_pick_f rfl q2 rfl) ?_
                refine JL_pd rfl (det_move rfl) ?_
                refine JL_split (d0 := 59) rfl (fun q3 => ?_) (fun q3 => ?_)
                · refine JL_skip rfl rfl q3 rfl ?_
                  refine JL_skip rfl rfl q3 rfl ?_
                  refine JL_skip rfl rfl q3 rfl ?_
                  refine JL_skip rfl rfl q3 rfl ?_
                  refine JL_pd rfl (det_pick_t rfl q3 rfl) ?_
                  exact hj (by kernel_rfl) (stsub_consB rfl (by clear hj; first | rfl | (simp only [q1, q2, q3, Bool.and_true, Bool.true_and, Bool.false_and, Bool.and_false, Bool.or_true, Bool.true_or, Bool.or_false, Bool.false_or, Bool.not_true, Bool.not_false]; done) | (simp [q1, q2, q3]; done) | (simp at q1; done) | (simp at q2; done) | (simp at q3; done) | (simp [q1, q2, q3] <;> omega) | (exfalso; simp at q1 q2 q3; omega) | (simp [q2, q3] at q1; done) | (simp [q1, q3] at q2; done) | (simp [q1, q2] at q3; done)) stsub_nil)
                · refine JL_guard rfl rfl q3 ?_
                  refine JL_pd rfl (det_fieldAddr rfl fo_55_2) ?_
                  refine JL_guard rfl rfl q3 ?_
                  refine JL_dt rfl (det_loadK rfl Try.isAgg22 rfl) ?_
                  refine JL_guard rfl rfl q3 ?_
                  refine JL_step rfl rfl rfl (jo_callv rfl rfl Try.call72 rfl (Sized_j xs[i].a xs[i].c xs[i].g.feet)) fun _ => ?_
                  refine JL_guard rfl rfl q3 ?_
                  refine JL_pd rfl (det_not rfl) ?_
                  refine JL_pd rfl (det_pick_f rfl q3 rfl) ?_
                  exact hj (by kernel_rfl) (stsub_consB rfl (by clear hj; first | rfl | (simp only [q1, q2, q3, Bool.and_true, Bool.true_and, Bool.false_and, Bool.and_false, Bool.or_true, Bool.true_or, Bool.or_false, Bool.false_or, Bool.not_true, Bool.not_false]; done) | (simp [q1, q2, q3]; done) | (simp at q1; done) | (simp at q2; done) | (simp at q3; done) | (simp [q1, q2, q3] <;> omega) | (exfalso; simp at q1 q2 q3; omega) | (simp [q2, q3] at q1; done) | (simp [q1, q3] at q2; done) | (simp [q1, q2] at q3; done)) stsub_nil)
          refine JL_nil ?_
          refine JE_seq ?_
          -- stop: cond
          rw [hgk]
          refine JC_cond rfl (fun h7 => ?_) (fun h7 => ?_)
          · refine JC_seq ?_
            refine JC_region ?_
            refine JL_pd rfl (det_assign rfl) ?_
            refine JL_nil ?_
            refine JE_seq ?_
            refine JC_ret ?_
            refine JE_block_ret ?_
            refine JE_seq_ret ?_
            refine JE_then_ret ?_
            refine JE_block_ret ?_
            refine JE_seq_ret ?_
            -- stop: out
            refine JE_out (.inl rfl) () (results1 Try.results67 (res_tmp rfl)) (by rw [e4, if_neg h1', if_neg h5, if_pos (all_no (p := fun y : Gx => grOk y.g) hi2 (by simpa using h7))]) (List.Perm.refl _) (fun _ _ => trivial)
          · refine JC_skip ?_
            refine JE_block ?_
            refine JE_seq ?_
            refine JC_region ?_
            refine JL_pd rfl (det_move rfl) ?_
            refine JL_pd rfl (det_add rfl rfl ⟨by omega, by omega⟩) ?_
            refine JL_pd rfl (det_assign rfl) ?_
            refine JL_nil ?_
            -- stop: end
            refine JE_roundF hK' (i + 1) ⟨by omega, all_snoc (p := fun y : Gx => grOk y.g) hi2 hgr (by simpa using h7)⟩ (by omega) (stsub_consI rfl (by omega) stsub_nil) ht_nil
        · obtain rfl : i = xs.length := by omega
          rw [List.take_length] at hgr
          refine JC_exit ?_
          refine JE_seq_exit ?_
          refine JE_then_exit ?_
          refine JE_block_here ?_
          refine JE_seq ?_
          refine JC_seq ?_
          refine JC_region ?_
          refine JL_pd rfl (det_assign rfl) ?_
          refine JL_nil ?_
          refine JE_seq ?_
          refine JC_ret ?_
          -- stop: out
          refine JE_out (.inl rfl) () (results1 Try.results67 (res_tmp rfl)) (by rw [e4, if_neg h1', if_neg h5, if_neg (by rw [hgr]; decide)]) (List.Perm.refl _) (fun _ _ => trivial)
theorem fault_jl (x : Hx) (a : Option Addr) (c : Nat) (xs : List Gx) : Cv Try.prog 24 [.agg #[I x.h.lanes, .slice x.a x.h.shoes.length x.c], .slice a xs.length c] (KAnd (KHx x) (KGs a c xs)) (I (fault x.h (gs xs))) := by
  refine Cx_of Try.func24 rfl Try.ntmps24 rfl fun w0 M0 => ?_
  refine JC_seq ?_
  refine JC_region ?_
  refine JL_step rfl rfl rfl (jo_box rfl rfl) fun b2 => ?_
  refine JL_pd rfl (det_assign rfl) ?_
  refine JL_nil ?_
  refine JE_seq ?_
  refine JC_seq ?_
  refine JC_region ?_
  refine JL_dt rfl (det_loadKA rfl Try.isAgg24 Try.sizeOf24 rfl rfl) ?_
  refine JL_pd rfl (det_move rfl) ?_
  refine JL_step rfl rfl rfl (jo_callv rfl rfl Try.call67 rfl (Fault_j x a c xs)) fun _ => ?_
  refine JL_pd rfl (det_assign rfl) ?_
  refine JL_nil ?_
  refine JE_seq ?_
  refine JC_ret ?_
  -- stop: out
  refine JE_out (.inl rfl) () (results1 Try.results24 (res_tmp rfl)) rfl (List.Perm.refl _) (fun _ _ => trivial)
end Go.Proofs.Ytkmaafnbefpdjaa

/- Walks of the reference of lend: plans. -/
namespace Go.Proofs.Ytkmaafnbefpdjaa
open Go.RowKit Go.Shelf

set_option maxRecDepth 100000 in
theorem IsPlan_j (x : Hx) (ga : Option Addr) (gc n : Nat) (a : Option Addr) (cap : Nat) (plan : List Int) (hl : 0 ≤ x.h.lanes ∧ x.h.lanes ≤ 5) : Cv Try.prog 27 [.agg #[I x.h.lanes, .slice x.a x.h.shoes.length x.c], .slice ga n gc, .slice a plan.length cap] (KSl a plan.length cap encI plan) (.bool (plan.all (fun m => inI m (-1) (x.h.lanes - 1)) && decide (plan.length = n))) := by
  refine Cx_of Try.func27 rfl Try.ntmps27 rfl fun w0 M0 => ?_
  refine JC_seq ?_
  refine JC_region ?_
  refine JL_step rfl rfl rfl (jo_box rfl rfl) fun b3 => ?_
  refine JL_pd rfl (det_assign rfl) ?_
  refine JL_nil ?_
  refine JE_seq ?_
  refine JC_seq ?_
  refine JC_seq ?_
  refine JC_region ?_
  refine JL_pd rfl (det_assign rfl) ?_
  refine JL_nil ?_
  refine JE_seq ?_
  refine JC_block ?_
  -- stop: loop
  refine JC_pure (p := plan.length ≤ 9223372036854775807) (by intro w h; exact h.1.bd) fun hz => ?_
  refine JC_keep b3 noFp ?_
  refine JC_loopF (γ := Nat) (fun i => i ≤ plan.length ∧ (plan.take i).all (fun m => inI m (-1) (x.h.lanes - 1)) = true) (fun i => [(7, I i)]) (fun _ => []) (fun i => plan.length - i) 0 ⟨Nat.zero_le _, rfl⟩ (stsub_consI rfl rfl stsub_nil) ht_nil ?_
  rintro i ⟨hi, hal⟩ K hK
  dsimp only [List.cons_append, List.nil_append]
  refine JC_seq ?_
  refine JC_seq ?_
  refine JC_region ?_
  refine JL_pd rfl (det_move rfl) ?_
  refine JL_pd rfl (det_move rfl) ?_
  refine JL_pd rfl (det_len rfl Try.runUnderlying22) ?_
  refine JL_pd rfl (det_lss rfl rfl) ?_
  refine JL_nil ?_
  refine JE_seq ?_
  -- stop: cond
  refine JC_if rfl (fun h1 => ?_) (fun h1 => ?_)
  · have hi2 : i < plan.length := by omega
    refine JC_skip ?_
    refine JE_seq ?_
    refine JC_seq ?_
    refine JC_block ?_
    refine JC_seq ?_
    refine JC_draw [] (by kernel_rfl) ?_
    refine JA_pd (i := 0) rfl (by kernel_rfl) rfl rfl (det_move rfl) ?_
    refine JA_pd (i := 1) rfl (by kernel_rfl) rfl rfl (det_move rfl) ?_
    refine JA_dt (i := 2) rfl (by kernel_rfl) (by kernel_rfl) rfl rfl (det_indexAddr rfl rfl (by first | rfl | omega) (by first | assumption | omega | decide) Try.runUnderlying22 Try.sizeOf3) ?_
    refine JA_dt (i := 3) rfl (by kernel_rfl) (by kernel_rfl) rfl rfl (det_loadE rfl (by first | assumption | omega | decide) Try.isAgg3 rfl rfl) ?_
    refine JA_pd (i := 4) rfl (by kernel_rfl) rfl rfl (det_fieldAddr rfl fo_24_0) ?_
    refine JA_dt (i := 5) rfl (by kernel_rfl) (by kernel_rfl) rfl rfl (det_loadK rfl Try.isAgg3 rfl) ?_
    refine JA_pd (i := 6) rfl (by kernel_rfl) rfl rfl (det_sub rfl rfl ⟨by omega, by omega⟩) ?_
    refine JA_one (i := 7) (by kernel_rfl) rfl rfl (jo_callv rfl rfl Try.call31 rfl (In_j _ _ _)) (fun _ => ⟨hsub_refl, fun _ h => h⟩) fun _ => ?_
    refine JA_pd (i := 8) rfl (by kernel_rfl) rfl rfl (det_not rfl) ?_
    refine JA_done (by kernel_rfl) ?_
    refine JE_seq ?_
    -- stop: cond
    refine JC_cond rfl (fun h2 => ?_) (fun h2 => ?_)
    · refine JC_seq ?_
      refine JC_region ?_
      refine JL_pd rfl (det_assign rfl) ?_
      refine JL_nil ?_
      refine JE_seq ?_
      refine JC_ret ?_
      refine JE_block_ret ?_
      refine JE_seq_ret ?_
      refine JE_then_ret ?_
      refine JE_block_ret ?_
      refine JE_seq_ret ?_
      -- stop: out
      refine JE_out (.inl rfl) () (results1 Try.results27 (res_tmp rfl)) (by rw [all_no (p := fun m => inI m (-1) (x.h.lanes - 1)) hi2 (by simpa using h2), Bool.false_and]) (List.Perm.refl _) (fun _ _ => trivial)
    · refine JC_skip ?_
      refine JE_block ?_
      refine JE_seq ?_
      refine JC_region ?_
      refine JL_pd rfl (det_move rfl) ?_
      refine JL_pd rfl (det_add rfl rfl ⟨by omega, by omega⟩) ?_
      refine JL_pd rfl (det_assign rfl) ?_
      refine JL_nil ?_
      -- stop: end
      refine JE_roundF hK (i + 1) ⟨by omega, all_snoc (p := fun m => inI m (-1) (x.h.lanes - 1)) hi2 hal (by simpa using h2)⟩ (by omega) (stsub_consI rfl (by omega) stsub_nil) ht_nil
  · obtain rfl : i = plan.length := by omega
    rw [List.take_length] at hal
    refine JC_exit ?_
    refine JE_seq_exit ?_
    refine JE_then_exit ?_
    refine JE_block_here ?_
    refine JE_seq ?_
    refine JC_seq ?_
    refine JC_region ?_
    refine JL_pd rfl (det_move rfl) ?_
    refine JL_pd rfl (det_len rfl Try.runUnderlying22) ?_
    refine JL_pd rfl (det_move rfl) ?_
    refine JL_pd rfl (det_len rfl Try.runUnderlying25) ?_
    refine JL_pd rfl (det_eql rfl rfl) ?_
    refine JL_pd rfl (det_assign rfl) ?_
    refine JL_nil ?_
    refine JE_seq ?_
    refine JC_ret ?_
    -- stop: out
    refine JE_out (.inl rfl) () (results1 Try.results27 (res_tmp rfl)) (by rw [hal, Bool.true_and]; congr 1; exact decide_eq_decide.2 (by omega)) (List.Perm.refl _) (fun _ _ => trivial)
/-- Two groups have a lane at an hour. -/
def meetP (zs : List (Gr × Int)) (t : Int) (i k : Nat) : Prop := ∃ (hi : i < zs.length) (hk : k < zs.length), 0 ≤ zs[i].2 ∧ zs[i].2 = zs[k].2 ∧ stays zs[i].1 t = true ∧ stays zs[k].1 t = true
theorem right_iff {zs : List (Gr × Int)} (hV : ∀ z ∈ zs, VGr z.1) : RightZ zs ↔ ∀ t : Nat, t ≤ 30 → ∀ i, i < zs.length → ∀ k, k < i → ¬ meetP zs t i k := by
  constructor
  · rintro h t _ i hi k hk ⟨_, hkl, q1, q2, q3, q4⟩
    have hp := List.pairwise_iff_getElem.1 h k i hkl hi hk
    have s3 := inI_iff.1 q3
    have s4 := inI_iff.1 q4
    exact hp ⟨by omega, q2.symm, by unfold ovl; omega⟩
  · intro h
    refine List.pairwise_iff_getElem.2 fun k i hk hi hki => ?_
    rintro ⟨q1, q2, q3⟩
    have vk := hV _ (List.getElem_mem hk)
    have vi := hV _ (List.getElem_mem hi)
    have := vk.f0; have := vk.fl; have := vk.lh; have := vk.h1
    have := vi.f0; have := vi.fl; have := vi.lh; have := vi.h1
    obtain ⟨t, t1, t2⟩ := (meets (a := zs[k].1) (b := zs[i].1) (by omega) (by omega)).2 q3
    have s1 := inI_iff.1 t1
    have s2 := inI_iff.1 t2
    refine h t.toNat (by omega) i hi k hki ⟨hi, hk, by omega, q2.symm, ?_, ?_⟩ <;> rw [show ((t.toNat : Nat) : Int) = t by omega] <;> assumption
set_option maxRecDepth 100000 in
set_option maxHeartbeats 1000000 in
theorem Right_j (ga : Option Addr) (gc : Nat) (xs : List Gx) (a : Option Addr) (cap : Nat) (plan : List Int) (hV : ∀ g ∈ gs xs, VGr g) (hn : plan.length = xs.length) (hl : xs.length ≤ 1000) : Cv Try.prog 28 [.slice ga xs.length gc, .slice a plan.length cap] (KAnd (KSl ga xs.length gc encG xs) (KSl a plan.length cap encI plan)) (.bool (rightB (gs xs) plan)) := by
  have hgl : (gs xs).length = xs.length := List.length_map _
  generalize hzs : (gs xs).zip plan = zs
  have hzl : zs.length = xs.length := by rw [← hzs, List.length_zip, hgl]; omega
  have hzg : ∀ i (hi : i < xs.length), zs[i]'(by omega) = (xs[i].g, plan[i]'(by omega)) := fun i hi => by
    subst hzs; rw [List.getElem_zip]; simp [gs]
  have hzV : ∀ z ∈ zs, VGr z.1 := fun z hz => by subst hzs; exact hV _ (List.of_mem_zip hz).1
  have hr : rightB (gs xs) plan = decide (RightZ zs) := by unfold rightB; rw [hzs]
  have hno : ∀ t : Nat, t ≤ 30 → ∀ i, i < xs.length → ∀ k, k < i → meetP zs t i k → rightB (gs xs) plan = false := fun t ht i hi k hk hm => by
    rw [hr]; exact decide_eq_false fun h => (right_iff hzV).1 h t ht i (by omega) k hk hm
  refine Cx_of Try.func28 rfl Try.ntmps28 rfl fun w0 M0 => ?_
  refine JC_seq ?_
  refine JC_region ?_
  refine JL_pd rfl (det_assign rfl) ?_
  refine JL_nil ?_
  refine JE_seq ?_
  refine JC_seq ?_
  refine JC_seq ?_
  refine JC_region ?_
  refine JL_pd rfl (det_assign rfl) ?_
  refine JL_nil ?_
  refine JE_seq ?_
  refine JC_block ?_
  -- stop: loop
  refine JC_loopF (γ := Nat) (fun t => t ≤ 31 ∧ ∀ s : Nat, s < t → ∀ i, i < xs.length → ∀ k, k < i → ¬ meetP zs s i k) (fun t => [(5, I t)]) (fun _ => []) (fun t => 31 - t) 0 ⟨Nat.zero_le _, fun s h => by omega⟩ (stsub_consI rfl rfl stsub_nil) ht_nil ?_
  rintro t ⟨ht, h1⟩ K hK
  dsimp only [List.cons_append, List.nil_append]
  refine JC_seq ?_
  refine JC_seq ?_
  refine JC_region ?_
  refine JL_pd rfl (det_move rfl) ?_
  refine JL_pd rfl (det_leq rfl rfl) ?_
  refine JL_nil ?_
  refine JE_seq ?_
  -- stop: cond
  refine JC_if rfl (fun h2 => ?_) (fun h2 => ?_)
  · have ht2 : t ≤ 30 := by omega
    refine JC_skip ?_
    refine JE_seq ?_
    refine JC_seq ?_
    refine JC_block ?_
    refine JC_seq ?_
    refine JC_region ?_
    refine JL_pd rfl (det_assign rfl) ?_
    refine JL_nil ?_
    refine JE_seq ?_
    refine JC_block ?_
    -- stop: loop
    refine JC_loopF (γ := Nat) (fun i => i ≤ xs.length ∧ ∀ i', i' < i → ∀ k, k < i' → ¬ meetP zs t i' k) (fun i => [(6, I i)]) (fun _ => []) (fun i => xs.length - i) 0 ⟨Nat.zero_le _, fun s h => by omega⟩ (stsub_consI rfl rfl stsub_nil) ht_nil ?_
    rintro i ⟨hi, h3⟩ K1 hK1
    dsimp only [List.cons_append, List.nil_append]
    refine JC_seq ?_
    refine JC_seq ?_
    refine JC_region ?_
    refine JL_pd rfl (det_move rfl) ?_
    refine JL_pd rfl (det_move rfl) ?_
    refine JL_pd rfl (det_len rfl Try.runUnderlying25) ?_
    refine JL_pd rfl (det_lss rfl rfl) ?_
    refine JL_nil ?_
    refine JE_seq ?_
    -- stop: cond
    refine JC_if rfl (fun h4 => ?_) (fun h4 => ?_)
    · have hi2 : i < xs.length := by omega
      have hi3 : i < plan.length := by omega
      refine JC_skip ?_
      refine JE_seq ?_
      refine JC_seq ?_
      refine JC_block ?_
      refine JC_seq ?_
      refine JC_region ?_
      refine JL_pd rfl (det_assign rfl) ?_
      refine JL_nil ?_
      refine JE_seq ?_
      refine JC_block ?_
      -- stop: loop
      refine JC_loopF (γ := Nat) (fun k => k ≤ i ∧ ∀ k', k' < k → ¬ meetP zs t i k') (fun k => [(7, I k)]) (fun _ => []) (fun k => i - k) 0 ⟨Nat.zero_le _, fun s h => by omega⟩ (stsub_consI rfl rfl stsub_nil) ht_nil ?_
      rintro k ⟨hk, h5⟩ K2 hK2
      dsimp only [List.cons_append, List.nil_append]
      refine JC_seq ?_
      refine JC_seq ?_
      refine JC_region ?_
      refine JL_pd rfl (det_move rfl) ?_
      refine JL_pd rfl (det_move rfl) ?_
      refine JL_pd rfl (det_lss rfl rfl) ?_
      refine JL_nil ?_
      refine JE_seq ?_
      -- stop: cond
      refine JC_if rfl (fun h6 => ?_) (fun h6 => ?_)
      · have hk2 : k < i := by omega
        have hk3 : k < xs.length := by omega
        have hk4 : k < plan.length := by omega
        have hmi : meetP zs t i k ↔ 0 ≤ plan[i] ∧ plan[i] = plan[k] ∧ stays xs[i].g t = true ∧ stays xs[k].g t = true := by
          unfold meetP
          constructor
          · rintro ⟨q1, q2, q⟩
            rw [hzg i hi2, hzg k hk3] at q; exact q
          · intro q
            refine ⟨by omega, by omega, ?_⟩
            rw [hzg i hi2, hzg k hk3]; exact q
        have hstep : ¬ meetP zs t i k → ∀ k', k' < k + 1 → ¬ meetP zs t i k' := fun hm k' hk' => by
          by_cases e : k' = k
          · rw [e]; exact hm
          · exact h5 k' (by omega)
        by_cases c1 : 0 ≤ plan[i]
        · by_cases c2 : plan[i] = plan[k]
          · by_cases c3 : stays xs[i].g t = true
            · refine JC_skip ?_
              refine JE_seq ?_
              refine JC_seq ?_
              refine JC_block ?_
              refine JC_seq ?_
              refine JC_draw [] (by kernel_rfl) ?_
              refine JA_pd (i := 0) rfl (by kernel_rfl) rfl rfl (det_move rfl) ?_
              refine JA_pd (i := 1) rfl (by kernel_rfl) rfl rfl (det_move rfl) ?_
              refine JA_dt (i := 2) rfl (by kernel_rfl) (by kernel_rfl) rfl rfl (det_indexAddr rfl rfl (by first | rfl | omega) (by first | assumption | omega | decide) Try.runUnderlying22 Try.sizeOf3) ?_
              refine JA_dt (i := 3) rfl (by kernel_rfl) (by kernel_rfl) rfl rfl (det_loadE rfl (by first | assumption | omega | decide) Try.isAgg3 rfl rfl) ?_
              refine JA_pd (i := 4) rfl (by kernel_rfl) rfl rfl (det_geq rfl rfl) ?_
              refine JA_pd (i := 5) rfl (by kernel_rfl) rfl rfl (det_move rfl) ?_
              -- stop: guard 5
              refine JA_is (d0 := 28) true rfl (by exact decide_eq_true c1) (fun g1 => ?_)
              refine JA_gpd (i := 6) rfl (by kernel_rfl) rfl rfl rfl rfl g1 (det_move rfl) ?_
              refine JA_gpd (i := 7) rfl (by kernel_rfl) rfl rfl rfl rfl g1 (det_move rfl) ?_
              refine JA_gdt (i := 8) rfl (by kernel_rfl) (by kernel_rfl) rfl rfl rfl rfl g1 (det_indexAddr rfl rfl (by first | rfl | omega) (by first | assumption | omega | decide) Try.runUnderlying22 Try.sizeOf3) ?_
              refine JA_gdt (i := 9) rfl (by kernel_rfl) (by kernel_rfl) rfl rfl rfl rfl g1 (det_loadE rfl (by first | assumption | omega | decide) Try.isAgg3 rfl rfl) ?_
              refine JA_gpd (i := 10) rfl (by kernel_rfl) rfl rfl rfl rfl g1 (det_move rfl) ?_
              refine JA_gpd (i := 11) rfl (by kernel_rfl) rfl rfl rfl rfl g1 (det_move rfl) ?_
              refine JA_gdt (i := 12) rfl (by kernel_rfl) (by kernel_rfl) rfl rfl rfl rfl g1 (det_indexAddr rfl rfl (by first | rfl | omega) (by first | assumption | omega | decide) Try.runUnderlying22 Try.sizeOf3) ?_
              refine JA_gdt (i := 13) rfl (by kernel_rfl) (by kernel_rfl) rfl rfl rfl rfl g1 (det_loadE rfl (by first | assumption | omega | decide) Try.isAgg3 rfl rfl) ?_
              refine JA_gpd (i := 14) rfl (by kernel_rfl) rfl rfl rfl rfl g1 (det_eql rfl rfl) ?_
              refine JA_pd (i := 15) rfl (by kernel_rfl) rfl rfl (det_pick_t rfl g1 rfl) ?_
              refine JA_pd (i := 16) rfl (by kernel_rfl) rfl rfl (det_move rfl) ?_
              -- stop: guard 16
              refine JA_is (d0 := 39) true rfl (by exact decide_eq_true c2) (fun g2 => ?_)
              refine JA_gpd (i := 17) rfl (by kernel_rfl) rfl rfl rfl rfl g2 (det_move rfl) ?_
              refine JA_gpd (i := 18) rfl (by kernel_rfl) rfl rfl rfl rfl g2 (det_move rfl) ?_
              refine JA_gdt (i := 19) rfl (by kernel_rfl) (by kernel_rfl) rfl rfl rfl rfl g2 (det_indexAddr rfl rfl (by first | rfl | omega) (by first | assumption | omega | decide) Try.runUnderlying25 Try.sizeOf55) ?_
              refine JA_gdt (i := 20) rfl (by kernel_rfl) (by kernel_rfl) rfl rfl rfl rfl g2 (det_loadEA rfl (by first | assumption | omega | decide) Try.isAgg55 Try.sizeOf55 rfl rfl rfl) ?_
              refine JA_gpd (i := 21) rfl (by kernel_rfl) rfl rfl rfl rfl g2 (det_move rfl) ?_
              refine JA_gone (i := 22) (by kernel_rfl) rfl rfl rfl g2 rfl (jo_callv rfl rfl Try.call68 rfl (Stays_j _ _)) (fun _ => ⟨hsub_refl, fun _ h => h⟩) fun _ => ?_
              refine JA_pd (i := 23) rfl (by kernel_rfl) rfl rfl (det_pick_t rfl g2 rfl) ?_
              refine JA_pd (i := 24) rfl (by kernel_rfl) rfl rfl (det_move rfl) ?_
              -- stop: guard 24
              refine JA_is (d0 := 47) true rfl (by exact c3) (fun g3 => ?_)
              refine JA_gpd (i := 25) rfl (by kernel_rfl) rfl rfl rfl rfl g3 (det_move rfl) ?_
              refine JA_gpd (i := 26) rfl (by kernel_rfl) rfl rfl rfl rfl g3 (det_move rfl) ?_
              refine JA_gdt (i := 27) rfl (by kernel_rfl) (by kernel_rfl) rfl rfl rfl rfl g3 (det_indexAddr rfl rfl (by first | rfl | omega) (by first | assumption | omega | decide) Try.runUnderlying25 Try.sizeOf55) ?_
              refine JA_gdt (i := 28) rfl (by kernel_rfl) (by kernel_rfl) rfl rfl rfl rfl g3 (det_loadEA rfl (by first | assumption | omega | decide) Try.isAgg55 Try.sizeOf55 rfl rfl rfl) ?_
              refine JA_gpd (i := 29) rfl (by kernel_rfl) rfl rfl rfl rfl g3 (det_move rfl) ?_
              refine JA_gone (i := 30) (by kernel_rfl) rfl rfl rfl g3 rfl (jo_callv rfl rfl Try.call68 rfl (Stays_j _ _)) (fun _ => ⟨hsub_refl, fun _ h => h⟩) fun _ => ?_
              refine JA_pd (i := 31) rfl (by kernel_rfl) rfl rfl (det_pick_t rfl g3 rfl) ?_
              refine JA_done (by kernel_rfl) ?_
              refine JE_seq ?_
              -- stop: cond
              refine JC_cond rfl (fun h7 => ?_) (fun h7 => ?_)
              · have hrf := hno t ht2 i hi2 k hk2 (hmi.2 ⟨c1, c2, c3, h7⟩)
                refine JC_seq ?_
                refine JC_region ?_
                refine JL_pd rfl (det_assign rfl) ?_
                refine JL_nil ?_
                refine JE_seq ?_
                refine JC_ret ?_
                refine JE_block_ret ?_
                refine JE_seq_ret ?_
                refine JE_then_ret ?_
                refine JE_block_ret ?_
                refine JE_block_ret ?_
                refine JE_seq_ret ?_
                refine JE_then_ret ?_
                refine JE_block_ret ?_
                refine JE_block_ret ?_
                refine JE_seq_ret ?_
                refine JE_then_ret ?_
                refine JE_block_ret ?_
                refine JE_seq_ret ?_
                -- stop: out
                refine JE_out (.inl rfl) () (results1 Try.results28 (res_tmp rfl)) (by rw [hrf]) (List.Perm.refl _) (fun _ _ => trivial)
              · refine JC_skip ?_
                refine JE_block ?_
                refine JE_seq ?_
                refine JC_region ?_
                refine JL_pd rfl (det_move rfl) ?_
                refine JL_pd rfl (det_add rfl rfl ⟨by omega, by omega⟩) ?_
                refine JL_pd rfl (det_assign rfl) ?_
                refine JL_nil ?_
                -- stop: end
                refine JE_roundF hK2 (k + 1) ⟨by omega, hstep fun h => by have := (hmi.1 h).2.2.2; rw [h7] at this; cases this⟩ (by omega) (stsub_consI rfl (by omega) stsub_nil) ht_nil
            · refine JC_skip ?_
              refine JE_seq ?_
              refine JC_seq ?_
              refine JC_block ?_
              refine JC_seq ?_
              refine JC_draw [] (by kernel_rfl) ?_
              refine JA_pd (i := 0) rfl (by kernel_rfl) rfl rfl (det_move rfl) ?_
              refine JA_pd (i := 1) rfl (by kernel_rfl) rfl rfl (det_move rfl) ?_
              refine JA_dt (i := 2) rfl (by kernel_rfl) (by kernel_rfl) rfl rfl (det_indexAddr rfl rfl (by first | rfl | omega) (by first | assumption | omega | decide) Try.runUnderlying22 Try.sizeOf3) ?_
              refine JA_dt (i := 3) rfl (by kernel_rfl) (by kernel_rfl) rfl rfl (det_loadE rfl (by first | assumption | omega | decide) Try.isAgg3 rfl rfl) ?_
              refine JA_pd (i := 4) rfl (by kernel_rfl) rfl rfl (det_geq rfl rfl) ?_
              refine JA_pd (i := 5) rfl (by kernel_rfl) rfl rfl (det_move rfl) ?_
              -- stop: guard 5
              refine JA_is (d0 := 28) true rfl (by exact decide_eq_true c1) (fun g1 => ?_)
              refine JA_gpd (i := 6) rfl (by kernel_rfl) rfl rfl rfl rfl g1 (det_move rfl) ?_
              refine JA_gpd (i := 7) rfl (by kernel_rfl) rfl rfl rfl rfl g1 (det_move rfl) ?_
              refine JA_gdt (i := 8) rfl (by kernel_rfl) (by kernel_rfl) rfl rfl rfl rfl g1 (det_indexAddr rfl rfl (by first | rfl | omega) (by first | assumption | omega | decide) Try.runUnderlying22 Try.sizeOf3) ?_
              refine JA_gdt (i := 9) rfl (by kernel_rfl) (by kernel_rfl) rfl rfl rfl rfl g1 (det_loadE rfl (by first | assumption | omega | decide) Try.isAgg3 rfl rfl) ?_
              refine JA_gpd (i := 10) rfl (by kernel_rfl) rfl rfl rfl rfl g1 (det_move rfl) ?_
              refine JA_gpd (i := 11) rfl (by kernel_rfl) rfl rfl rfl rfl g1 (det_move rfl) ?_
              refine JA_gdt (i := 12) rfl (by kernel_rfl) (by kernel_rfl) rfl rfl rfl rfl g1 (det_indexAddr rfl rfl (by first | rfl | omega) (by first | assumption | omega | decide) Try.runUnderlying22 Try.sizeOf3) ?_
              refine JA_gdt (i := 13) rfl (by kernel_rfl) (by kernel_rfl) rfl rfl rfl rfl g1 (det_loadE rfl (by first | assumption | omega | decide) Try.isAgg3 rfl rfl) ?_
              refine JA_gpd (i := 14) rfl (by kernel_rfl) rfl rfl rfl rfl g1 (det_eql rfl rfl) ?_
              refine JA_pd (i := 15) rfl (by kernel_rfl) rfl rfl (det_pick_t rfl g1 rfl) ?_
              refine JA_pd (i := 16) rfl (by kernel_rfl) rfl rfl (det_move rfl) ?_
              -- stop: guard 16
              refine JA_is (d0 := 39) true rfl (by exact decide_eq_true c2) (fun g2 => ?_)
              refine JA_gpd (i := 17) rfl (by kernel_rfl) rfl rfl rfl rfl g2 (det_move rfl) ?_
              refine JA_gpd (i := 18) rfl (by kernel_rfl) rfl rfl rfl rfl g2 (det_move rfl) ?_
              refine JA_gdt (i := 19) rfl (by kernel_rfl) (by kernel_rfl) rfl rfl rfl rfl g2 (det_indexAddr rfl rfl (by first | rfl | omega) (by first | assumption | omega | decide) Try.runUnderlying25 Try.sizeOf55) ?_
              refine JA_gdt (i := 20) rfl (by kernel_rfl) (by kernel_rfl) rfl rfl rfl rfl g2 (det_loadEA rfl (by first | assumption | omega | decide) Try.isAgg55 Try.sizeOf55 rfl rfl rfl) ?_
              refine JA_gpd (i := 21) rfl (by kernel_rfl) rfl rfl rfl rfl g2 (det_move rfl) ?_
              refine JA_gone (i := 22) (by kernel_rfl) rfl rfl rfl g2 rfl (jo_callv rfl rfl Try.call68 rfl (Stays_j _ _)) (fun _ => ⟨hsub_refl, fun _ h => h⟩) fun _ => ?_
              refine JA_pd (i := 23) rfl (by kernel_rfl) rfl rfl (det_pick_t rfl g2 rfl) ?_
              refine JA_pd (i := 24) rfl (by kernel_rfl) rfl rfl (det_move rfl) ?_
              -- stop: guard 24
              refine JA_is (d0 := 47) false rfl (by simpa using c3) (fun g3 => ?_)
              refine JA_skip (i := 25) rfl (by kernel_rfl) rfl rfl rfl rfl g3 ?_
              refine JA_skip (i := 26) rfl (by kernel_rfl) rfl rfl rfl rfl g3 ?_
              refine JA_skip (i := 27) rfl (by kernel_rfl) rfl rfl rfl rfl g3 ?_
              refine JA_skip (i := 28) rfl (by kernel_rfl) rfl rfl rfl rfl g3 ?_
              refine JA_skip (i := 29) rfl (by kernel_rfl) rfl rfl rfl rfl g3 ?_
              refine JA_skip (i := 30) rfl (by kernel_rfl) rfl rfl rfl rfl g3 ?_
              refine JA_pd (i := 31) rfl (by kernel_rfl) rfl rfl (det_pick_f rfl g3 rfl) ?_
              refine JA_done (by kernel_rfl) ?_
              refine JE_seq ?_
              -- stop: cond
              refine JC_cond rfl (fun h7 => ?_) (fun h7 => ?_)
              · cases h7
              · refine JC_skip ?_
                refine JE_block ?_
                refine JE_seq ?_
                refine JC_region ?_
                refine JL_pd rfl (det_move rfl) ?_
                refine JL_pd rfl (det_add rfl rfl ⟨by omega, by omega⟩) ?_
                refine JL_pd rfl (det_assign rfl) ?_
                refine JL_nil ?_
                -- stop: end
                refine JE_roundF hK2 (k + 1) ⟨by omega, hstep fun h => c3 (hmi.1 h).2.2.1⟩ (by omega) (stsub_consI rfl (by omega) stsub_nil) ht_nil
          · refine JC_skip ?_
            refine JE_seq ?_
            refine JC_seq ?_
            refine JC_block ?_
            refine JC_seq ?_
            refine JC_draw [] (by kernel_rfl) ?_
            refine JA_pd (i := 0) rfl (by kernel_rfl) rfl rfl (det_move rfl) ?_
            refine JA_pd (i := 1) rfl (by kernel_rfl) rfl rfl (det_move rfl) ?_
            refine JA_dt (i := 2) rfl (by kernel_rfl) (by kernel_rfl) rfl rfl (det_indexAddr rfl rfl (by first | rfl | omega) (by first | assumption | omega | decide) Try.runUnderlying22 Try.sizeOf3) ?_
            refine JA_dt (i := 3) rfl (by kernel_rfl) (by kernel_rfl) rfl rfl (det_loadE rfl (by first | assumption | omega | decide) Try.isAgg3 rfl rfl) ?_
            refine JA_pd (i := 4) rfl (by kernel_rfl) rfl rfl (det_geq rfl rfl) ?_
            refine JA_pd (i := 5) rfl (by kernel_rfl) rfl rfl (det_move rfl) ?_
            -- stop: guard 5
            refine JA_is (d0 := 28) true rfl (by exact decide_eq_true c1) (fun g1 => ?_)
            refine JA_gpd (i := 6) rfl (by kernel_rfl) rfl rfl rfl rfl g1 (det_move rfl) ?_
            refine JA_gpd (i := 7) rfl (by kernel_rfl) rfl rfl rfl rfl g1 (det_move rfl) ?_
            refine JA_gdt (i := 8) rfl (by kernel_rfl) (by kernel_rfl) rfl rfl rfl rfl g1 (det_indexAddr rfl rfl (by first | rfl | omega) (by first | assumption | omega | decide) Try.runUnderlying22 Try.sizeOf3) ?_
            refine JA_gdt (i := 9) rfl (by kernel_rfl) (by kernel_rfl) rfl rfl rfl rfl g1 (det_loadE rfl (by first | assumption | omega | decide) Try.isAgg3 rfl rfl) ?_
            refine JA_gpd (i := 10) rfl (by kernel_rfl) rfl rfl rfl rfl g1 (det_move rfl) ?_
            refine JA_gpd (i := 11) rfl (by kernel_rfl) rfl rfl rfl rfl g1 (det_move rfl) ?_
            refine JA_gdt (i := 12) rfl (by kernel_rfl) (by kernel_rfl) rfl rfl rfl rfl g1 (det_indexAddr rfl rfl (by first | rfl | omega) (by first | assumption | omega | decide) Try.runUnderlying22 Try.sizeOf3) ?_
            refine JA_gdt (i := 13) rfl (by kernel_rfl) (by kernel_rfl) rfl rfl rfl rfl g1 (det_loadE rfl (by first | assumption | omega | decide) Try.isAgg3 rfl rfl) ?_
            refine JA_gpd (i := 14) rfl (by kernel_rfl) rfl rfl rfl rfl g1 (det_eql rfl rfl) ?_
            refine JA_pd (i := 15) rfl (by kernel_rfl) rfl rfl (det_pick_t rfl g1 rfl) ?_
            refine JA_pd (i := 16) rfl (by kernel_rfl) rfl rfl (det_move rfl) ?_
            -- stop: guard 16
            refine JA_is (d0 := 39) false rfl (by exact decide_eq_false c2) (fun g2 => ?_)
            refine JA_skip (i := 17) rfl (by kernel_rfl) rfl rfl rfl rfl g2 ?_
            refine JA_skip (i := 18) rfl (by kernel_rfl) rfl rfl rfl rfl g2 ?_
            refine JA_skip (i := 19) rfl (by kernel_rfl) rfl rfl rfl rfl g2 ?_
            refine JA_skip (i := 20) rfl (by kernel_rfl) rfl rfl rfl rfl g2 ?_
            refine JA_skip (i := 21) rfl (by kernel_rfl) rfl rfl rfl rfl g2 ?_
            refine JA_skip (i := 22) rfl (by kernel_rfl) rfl rfl rfl rfl g2 ?_
            refine JA_pd (i := 23) rfl (by kernel_rfl) rfl rfl (det_pick_f rfl g2 rfl) ?_
            refine JA_pd (i := 24) rfl (by kernel_rfl) rfl rfl (det_move rfl) ?_
            -- stop: guard 24
            refine JA_is (d0 := 47) false rfl (by rfl) (fun g3 => ?_)
            refine JA_skip (i := 25) rfl (by kernel_rfl) rfl rfl rfl rfl g3 ?_
            refine JA_skip (i := 26) rfl (by kernel_rfl) rfl rfl rfl rfl g3 ?_
            refine JA_skip (i := 27) rfl (by kernel_rfl) rfl rfl rfl rfl g3 ?_
            refine JA_skip (i := 28) rfl (by kernel_rfl) rfl rfl rfl rfl g3 ?_
            refine JA_skip (i := 29) rfl (by kernel_rfl) rfl rfl rfl rfl g3 ?_
            refine JA_skip (i := 30) rfl (by kernel_rfl) rfl rfl rfl rfl g3 ?_
            refine JA_pd (i := 31) rfl (by kernel_rfl) rfl rfl (det_pick_f rfl g3 rfl) ?_
            refine JA_done (by kernel_rfl) ?_
            refine JE_seq ?_
            -- stop: cond
            refine JC_cond rfl (fun h7 => ?_) (fun h7 => ?_)
            · cases h7
            · refine JC_skip ?_
              refine JE_block ?_
              refine JE_seq ?_
              refine JC_region ?_
              refine JL_pd rfl (det_move rfl) ?_
              refine JL_pd rfl (det_add rfl rfl ⟨by omega, by omega⟩) ?_
              refine JL_pd rfl (det_assign rfl) ?_
              refine JL_nil ?_
              -- stop: end
              refine JE_roundF hK2 (k + 1) ⟨by omega, hstep fun h => c2 (hmi.1 h).2.1⟩ (by omega) (stsub_consI rfl (by omega) stsub_nil) ht_nil
        · refine JC_skip ?_
          refine JE_seq ?_
          refine JC_seq ?_
          refine JC_block ?_
          refine JC_seq ?_
          refine JC_draw [] (by kernel_rfl) ?_
          refine JA_pd (i := 0) rfl (by kernel_rfl) rfl rfl (det_move rfl) ?_
          refine JA_pd (i := 1) rfl (by kernel_rfl) rfl rfl (det_move rfl) ?_
          refine JA_dt (i := 2) rfl (by kernel_rfl) (by kernel_rfl) rfl rfl (det_indexAddr rfl rfl (by first | rfl | omega) (by first | assumption | omega | decide) Try.runUnderlying22 Try.sizeOf3) ?_
          refine JA_dt (i := 3) rfl (by kernel_rfl) (by kernel_rfl) rfl rfl (det_loadE rfl (by first | assumption | omega | decide) Try.isAgg3 rfl rfl) ?_
          refine JA_pd (i := 4) rfl (by kernel_rfl) rfl rfl (det_geq rfl rfl) ?_
          refine JA_pd (i := 5) rfl (by kernel_rfl) rfl rfl (det_move rfl) ?_
          -- stop: guard 5
          refine JA_is (d0 := 28) false rfl (by exact decide_eq_false c1) (fun g1 => ?_)
          refine JA_skip (i := 6) rfl (by kernel_rfl) rfl rfl rfl rfl g1 ?_
          refine JA_skip (i := 7) rfl (by kernel_rfl) rfl rfl rfl rfl g1 ?_
          refine JA_skip (i := 8) rfl (by kernel_rfl) rfl rfl rfl rfl g1 ?_
          refine JA_skip (i := 9) rfl (by kernel_rfl) rfl rfl rfl rfl g1 ?_
          refine JA_skip (i := 10) rfl (by kernel_rfl) rfl rfl rfl rfl g1 ?_
          refine JA_skip (i := 11) rfl (by kernel_rfl) rfl rfl rfl rfl g1 ?_
          refine JA_skip (i := 12) rfl (by kernel_rfl) rfl rfl rfl rfl g1 ?_
          refine JA_skip (i := 13) rfl (by kernel_rfl) rfl rfl rfl rfl g1 ?_
          refine JA_skip (i := 14) rfl (by kernel_rfl) rfl rfl rfl rfl g1 ?_
          refine JA_pd (i := 15) rfl (by kernel_rfl) rfl rfl (det_pick_f rfl g1 rfl) ?_
          refine JA_pd (i := 16) rfl (by kernel_rfl) rfl rfl (det_move rfl) ?_
          -- stop: guard 16
          refine JA_is (d0 := 39) false rfl (by rfl) (fun g2 => ?_)
          refine JA_skip (i := 17) rfl (by kernel_rfl) rfl rfl rfl rfl g2 ?_
          refine JA_skip (i := 18) rfl (by kernel_rfl) rfl rfl rfl rfl g2 ?_
          refine JA_skip (i := 19) rfl (by kernel_rfl) rfl rfl rfl rfl g2 ?_
          refine JA_skip (i := 20) rfl (by kernel_rfl) rfl rfl rfl rfl g2 ?_
          refine JA_skip (i := 21) rfl (by kernel_rfl) rfl rfl rfl rfl g2 ?_
          refine JA_skip (i := 22) rfl (by kernel_rfl) rfl rfl rfl rfl g2 ?_
          refine JA_pd (i := 23) rfl (by kernel_rfl) rfl rfl (det_pick_f rfl g2 rfl) ?_
          refine JA_pd (i := 24) rfl (by kernel_rfl) rfl rfl (det_move rfl) ?_
          -- stop: guard 24
          refine JA_is (d0 := 47) false rfl (by rfl) (fun g3 => ?_)
          refine JA_skip (i := 25) rfl (by kernel_rfl) rfl rfl rfl rfl g3 ?_
          refine JA_skip (i := 26) rfl (by kernel_rfl) rfl rfl rfl rfl g3 ?_
          refine JA_skip (i := 27) rfl (by kernel_rfl) rfl rfl rfl rfl g3 ?_
          refine JA_skip (i := 28) rfl (by kernel_rfl) rfl rfl rfl rfl g3 ?_
          refine JA_skip (i := 29) rfl (by kernel_rfl) rfl rfl rfl rfl g3 ?_
          refine JA_skip (i := 30) rfl (by kernel_rfl) rfl rfl rfl rfl g3 ?_
          refine JA_pd (i := 31) rfl (by kernel_rfl) rfl rfl (det_pick_f rfl g3 rfl) ?_
          refine JA_done (by kernel_rfl) ?_
          refine JE_seq ?_
          -- stop: cond
          refine JC_cond rfl (fun h7 => ?_) (fun h7 => ?_)
          · cases h7
          · refine JC_skip ?_
            refine JE_block ?_
            refine JE_seq ?_
            refine JC_region ?_
            refine JL_pd rfl (det_move rfl) ?_
            refine JL_pd rfl (det_add rfl rfl ⟨by omega, by omega⟩) ?_
            refine JL_pd rfl (det_assign rfl) ?_
            refine JL_nil ?_
            -- stop: end
            refine JE_roundF hK2 (k + 1) ⟨by omega, hstep fun h => c1 (hmi.1 h).1⟩ (by omega) (stsub_consI rfl (by omega) stsub_nil) ht_nil
      · obtain rfl : k = i := by omega
        refine JC_exit ?_
        refine JE_seq_exit ?_
        refine JE_then_exit ?_
        refine JE_block_here ?_
        refine JE_block ?_
        refine JE_seq ?_
        refine JC_region ?_
        refine JL_pd rfl (det_move rfl) ?_
        refine JL_pd rfl (det_add rfl rfl ⟨by omega, by omega⟩) ?_
        refine JL_pd rfl (det_assign rfl) ?_
        refine JL_nil ?_
        -- stop: end
        refine JE_roundF hK1 (k + 1) ⟨by omega, fun i' hi' m hm => ?_⟩ (by omega) (stsub_consI rfl (by omega) stsub_nil) ht_nil
        by_cases e : i' = k
        · subst e; exact h5 m hm
        · exact h3 i' (by omega) m hm
    · obtain rfl : i = xs.length := by omega
      refine JC_exit ?_
      refine JE_seq_exit ?_
      refine JE_then_exit ?_
      refine JE_block_here ?_
      refine JE_block ?_
      refine JE_seq ?_
      refine JC_region ?_
      refine JL_pd rfl (det_move rfl) ?_
      refine JL_pd rfl (det_add rfl rfl ⟨by omega, by omega⟩) ?_
      refine JL_pd rfl (det_assign rfl) ?_
      refine JL_nil ?_
      -- stop: end
      refine JE_roundF hK (t + 1) ⟨by omega, fun s hs i' hi' m hm => ?_⟩ (by omega) (stsub_consI rfl (by omega) stsub_nil) ht_nil
      by_cases e : s = t
      · subst e; exact h3 i' hi' m hm
      · exact h1 s (by omega) i' hi' m hm
  · have hrt : rightB (gs xs) plan = true := by
      rw [hr]; exact decide_eq_true ((right_iff hzV).2 fun s hs i hi k hk => h1 s (by omega) i (by omega) k hk)
    refine JC_exit ?_
    refine JE_seq_exit ?_
    refine JE_then_exit ?_
    refine JE_block_here ?_
    refine JE_seq ?_
    refine JC_seq ?_
    refine JC_region ?_
    refine JL_pd rfl (det_assign rfl) ?_
    refine JL_nil ?_
    refine JE_seq ?_
    refine JC_ret ?_
    -- stop: out
    refine JE_out (.inl rfl) () (results1 Try.results28 (res_tmp rfl)) (by rw [hrt]) (List.Perm.refl _) (fun _ _ => trivial)
set_option maxRecDepth 100000 in
theorem Served_j (a : Option Addr) (cap : Nat) (plan : List Int) (hl : plan.length ≤ 1000) : Cv Try.prog 26 [.slice a plan.length cap] (KSl a plan.length cap encI plan) (I ((served plan : Nat) : Int)) := by
  refine Cx_of Try.func26 rfl Try.ntmps26 rfl fun w0 M0 => ?_
  refine JC_seq ?_
  refine JC_region ?_
  refine JL_pd rfl (det_assign rfl) ?_
  refine JL_nil ?_
  refine JE_seq ?_
  refine JC_seq ?_
  refine JC_region ?_
  refine JL_pd rfl (det_assign rfl) ?_
  refine JL_nil ?_
  refine JE_seq ?_
  refine JC_seq ?_
  refine JC_seq ?_
  refine JC_region ?_
  refine JL_pd rfl (det_assign rfl) ?_
  refine JL_nil ?_
  refine JE_seq ?_
  refine JC_block ?_
  -- stop: loop
  refine JC_loopF (γ := Nat) (fun i => i ≤ plan.length) (fun i => [(4, I i), (3, I ((served (plan.take i) : Nat) : Int))]) (fun _ => []) (fun i => plan.length - i) 0 (Nat.zero_le _) (stsub_consI rfl rfl (stsub_consI rfl rfl stsub_nil)) ht_nil ?_
  intro i hi K hK
  dsimp only [List.cons_append, List.nil_append]
  have hcl : served (plan.take i) ≤ plan.length := Nat.le_trans List.countP_le_length (by rw [List.length_take]; omega)
  refine JC_seq ?_
  refine JC_seq ?_
  refine JC_region ?_
  refine JL_pd rfl (det_move rfl) ?_
  refine JL_pd rfl (det_move rfl) ?_
  refine JL_pd rfl (det_len rfl Try.runUnderlying22) ?_
  refine JL_pd rfl (det_lss rfl rfl) ?_
  refine JL_nil ?_
  refine JE_seq ?_
  -- stop: cond
  refine JC_if rfl (fun h1 => ?_) (fun h1 => ?_)
  · have hi2 : i < plan.length := by omega
    have hs := countP_snoc (fun n : Int => decide (0 ≤ n)) plan i hi2
    refine JC_skip ?_
    refine JE_seq ?_
    refine JC_seq ?_
    refine JC_block ?_
    refine JC_seq ?_
    refine JC_region ?_
    refine JL_pd rfl (det_move rfl) ?_
    refine JL_pd rfl (det_move rfl) ?_
    refine JL_dt rfl (det_indexAddr rfl rfl (by first | rfl | omega) (by first | assumption | omega | decide) Try.runUnderlying22 Try.sizeOf3) ?_
    refine JL_dt rfl (det_loadE rfl (by first | assumption | omega | decide) Try.isAgg3 rfl rfl) ?_
    refine JL_pd rfl (det_geq rfl rfl) ?_
    refine JL_nil ?_
    refine JE_seq ?_
    -- stop: cond
    refine JC_if rfl (fun h2 => ?_) (fun h2 => ?_)
    · refine JC_region ?_
      refine JL_pd rfl (det_move rfl) ?_
      refine JL_pd rfl (det_add rfl rfl ⟨by omega, by omega⟩) ?_
      refine JL_pd rfl (det_assign rfl) ?_
      refine JL_nil ?_
      refine JE_block ?_
      refine JE_seq ?_
      refine JC_region ?_
      refine JL_pd rfl (det_move rfl) ?_
      refine JL_pd rfl (det_add rfl rfl ⟨by omega, by omega⟩) ?_
      refine JL_pd rfl (det_assign rfl) ?_
      refine JL_nil ?_
      -- stop: end
      rw [if_pos (decide_eq_true h2)] at hs
      refine JE_roundF hK (i + 1) (by omega) (by omega) (stsub_consI rfl (by omega) (stsub_consI rfl (by unfold served; omega) stsub_nil)) ht_nil
    · refine JC_skip ?_
      refine JE_block ?_
      refine JE_seq ?_
      refine JC_region ?_
      refine JL_pd rfl (det_move rfl) ?_
      refine JL_pd rfl (det_add rfl rfl ⟨by omega, by omega⟩) ?_
      refine JL_pd rfl (det_assign rfl) ?_
      refine JL_nil ?_
      -- stop: end
      rw [if_neg (by rw [decide_eq_false h2]; decide)] at hs
      refine JE_roundF hK (i + 1) (by omega) (by omega) (stsub_consI rfl (by omega) (stsub_consI rfl (by unfold served; omega) stsub_nil)) ht_nil
  · refine JC_exit ?_
    refine JE_seq_exit ?_
    refine JE_then_exit ?_
    refine JE_block_here ?_
    refine JE_seq ?_
    refine JC_seq ?_
    refine JC_region ?_
    refine JL_pd rfl (det_move rfl) ?_
    refine JL_pd rfl (det_assign rfl) ?_
    refine JL_nil ?_
    refine JE_seq ?_
    refine JC_ret ?_
    -- stop: out
    obtain rfl : i = plan.length := by omega
    refine JE_out (.inl rfl) () (results1 Try.results26 (res_tmp rfl)) (by rw [List.take_length]) (List.Perm.refl _) (fun _ _ => trivial)
theorem planned_jl (x : Hx) (ga : Option Addr) (gc : Nat) (xs : List Gx) (a : Option Addr) (cap : Nat) (plan : List Int) : Cv Try.prog 25 [.agg #[I x.h.lanes, .slice x.a x.h.shoes.length x.c], .slice ga xs.length gc, .slice a plan.length cap] (KAnd (KHx x) (KAnd (KGs ga gc xs) (KSl a plan.length cap encI plan))) (I (plannedE x.h (gs xs) plan)) := by
  refine Cx_of Try.func25 rfl Try.ntmps25 rfl fun w0 M0 => ?_
  refine JC_seq ?_
  refine JC_region ?_
  refine JL_step rfl rfl rfl (jo_box rfl rfl) fun b3 => ?_
  refine JL_pd rfl (det_assign rfl) ?_
  refine JL_nil ?_
  refine JE_seq ?_
  refine JC_seq ?_
  refine JC_seq ?_
  refine JC_region ?_
  refine JL_dt rfl (det_loadKA rfl Try.isAgg24 Try.sizeOf24 rfl rfl) ?_
  refine JL_pd rfl (det_move rfl) ?_
  refine JL_step rfl rfl rfl (jo_callv rfl rfl Try.call24 rfl (fault_jl x ga gc xs)) fun _ => ?_
  refine JL_pd rfl (det_assign rfl) ?_
  refine JL_nil ?_
  refine JE_seq ?_
  refine JC_seq ?_
  refine JC_region ?_
  refine JL_pd rfl (det_move rfl) ?_
  refine JL_pd rfl (det_neq rfl rfl) ?_
  refine JL_nil ?_
  refine JE_seq ?_
  -- stop: cond
  refine JC_ifn rfl (fun h1 => ?_) (fun h1 => ?_)
  · refine JC_seq ?_
    refine JC_region ?_
    refine JL_pd rfl (det_move rfl) ?_
    refine JL_pd rfl (det_assign rfl) ?_
    refine JL_nil ?_
    refine JE_seq ?_
    refine JC_ret ?_
    refine JE_seq_ret ?_
    -- stop: out
    refine JE_out (.inl rfl) () (results1 Try.results25 (res_tmp rfl)) (by unfold plannedE; rw [if_pos h1]) (List.Perm.refl _) (fun _ _ => trivial)
  · have V := vld_of h1
    have hn : xs.length ≤ 8 := by have := V.n; simpa [gs] using this
    refine JC_skip ?_
    refine JE_seq ?_
    refine JC_seq ?_
    refine JC_seq ?_
    refine JC_region ?_
    refine JL_dt rfl (det_loadKA rfl Try.isAgg24 Try.sizeOf24 rfl rfl) ?_
    refine JL_pd rfl (det_move rfl) ?_
    refine JL_pd rfl (det_move rfl) ?_
    refine JL_step rfl rfl rfl (jo_callv rfl rfl Try.call27 rfl (IsPlan_j x ga gc xs.length a cap plan ⟨V.hs.l0, V.hs.l1⟩)) fun _ => ?_
    refine JL_pd rfl (det_not rfl) ?_
    refine JL_nil ?_
    refine JE_seq ?_
    -- stop: cond
    refine JC_cond rfl (fun h2 => ?_) (fun h2 => ?_)
    · refine JC_seq ?_
      refine JC_region ?_
      refine JL_pd rfl (det_assign rfl) ?_
      refine JL_nil ?_
      refine JE_seq ?_
      refine JC_ret ?_
      refine JE_seq_ret ?_
      -- stop: out
      refine JE_out (.inl rfl) () (results1 Try.results25 (res_tmp rfl)) (by unfold plannedE; rw [if_neg (by omega), if_pos (by rw [isPlan_eq]; simpa only [Bool.not_eq_true'] using h2)]) (List.Perm.refl _) (fun _ _ => trivial)
    · have h2' : isPlan x.h.lanes (gs xs) plan = true := by rw [isPlan_eq]; simpa only [Bool.not_eq_false'] using h2
      have h2'' := h2'
      rw [isPlan_eq, Bool.and_eq_true, decide_eq_true_eq] at h2''
      refine JC_skip ?_
      refine JE_seq ?_
      refine JC_seq ?_
      refine JC_seq ?_
      refine JC_region ?_
      refine JL_pd rfl (det_move rfl) ?_
      refine JL_pd rfl (det_move rfl) ?_
      refine JL_step rfl rfl rfl (jo_callv rfl rfl Try.call28 rfl (Right_j ga gc xs a cap plan V.gr h2''.2 (by omega))) fun _ => ?_
      refine JL_pd rfl (det_not rfl) ?_
      refine JL_nil ?_
      refine JE_seq ?_
      -- stop: cond
      refine JC_cond rfl (fun h3 => ?_) (fun h3 => ?_)
      · refine JC_seq ?_
        refine JC_region ?_
        refine JL_pd rfl (det_assign rfl) ?_
        refine JL_nil ?_
        refine JE_seq ?_
        refine JC_ret ?_
        refine JE_seq_ret ?_
        -- stop: out
        refine JE_out (.inl rfl) () (results1 Try.results25 (res_tmp rfl)) (by unfold plannedE; rw [if_neg (by omega), if_neg (by rw [h2']; decide), if_pos (by simpa using h3)]) (List.Perm.refl _) (fun _ _ => trivial)
      · refine JC_skip ?_
        refine JE_seq ?_
        refine JC_seq ?_
        refine JC_region ?_
        refine JL_pd rfl (det_assign rfl) ?_
        refine JL_nil ?_
        refine JE_seq ?_
        refine JC_ret ?_
        -- stop: out
        refine JE_out (.inl rfl) () (results1 Try.results25 (res_tmp rfl)) (by unfold plannedE; rw [if_neg (by omega), if_neg (by rw [h2']; decide), if_neg (by simpa using h3)]) (List.Perm.refl _) (fun _ _ => trivial)
end Go.Proofs.Ytkmaafnbefpdjaa

/- The statements about lend: the document's first examples. -/
namespace Go.Proofs.Ytkmaafnbefpdjaa
open Go.RowKit Go.Shelf

def alH : Hs := ⟨2, [0, 0, 0, 0, 1, 2, 0, 0, 0, 0]⟩
def paL : List Gr := [⟨1, 2, 3, [4, 5]⟩, ⟨2, 4, 4, [5]⟩, ⟨3, 3, 6, [4]⟩, ⟨5, 5, 5, []⟩]
abbrev alX (b : Nat) : Hx := ⟨alH, some ⟨b, 0, none⟩, 10⟩
abbrev paX (q : Nat × Nat × Nat × Nat) : List Gx := [⟨⟨1, 2, 3, [4, 5]⟩, some ⟨q.1, 0, none⟩, 2⟩, ⟨⟨2, 4, 4, [5]⟩, some ⟨q.2.1, 0, none⟩, 1⟩, ⟨⟨3, 3, 6, [4]⟩, some ⟨q.2.2.1, 0, none⟩, 1⟩, ⟨⟨5, 5, 5, []⟩, none, 0⟩]
theorem pa_gs (q : Nat × Nat × Nat × Nat) : gs (paX q) = paL := rfl
theorem al_f : fault alH paL = 0 := by decide +kernel
theorem alley_j : Cr Try.prog 53 [] KTrue (fun b : Nat => .agg #[I 2, .slice (some ⟨b, 0, none⟩) 10 10]) (fun b => KHx (alX b)) := by
  refine Cx_of Try.func53 rfl Try.ntmps53 rfl fun w0 M0 => ?_
  refine JC_seq ?_
  refine JC_region ?_
  refine JL_step rfl rfl rfl (jo_alloc0 Try.zeroValue30 rfl) fun b0 => ?_
  refine JL_nil ?_
  refine JE_seq ?_
  refine JC_seq ?_
  refine JC_region ?_
  refine JL_step rfl rfl rfl (jo_buildSlice rfl (bsl_22_10_0_1_2_3_4_5_6_7_8_9 _ _ _ _ _ _ _ _ _ _)) fun b1 => ?_
  refine JL_pd rfl (det_build rfl (bld_30_0_1 _ _ _ _)) ?_
  refine JL_step0 rfl rfl (jo_store rfl rfl rfl (by first | (simp only [splice_norm]; done) | (simp only [splice_norm]; rfl) | rfl) Try.sizeOf30 rfl rfl) fun _ => ?_
  refine JL_nil ?_
  refine JE_seq ?_
  refine JC_ret ?_
  -- stop: out
  refine JE_lit (enc := encI) b1 10 alH.shoes noFp rfl rfl (by decide) ?_
  refine JE_out (.inl rfl) b1 (results1 Try.results53 (res_box rfl Try.isAgg30 Try.sizeOf30 rfl)) rfl (List.Perm.refl _) (fun w h => h.1)
theorem pa_ft {q : Nat × Nat × Nat × Nat} {w : World} (h1 : KSl (some ⟨q.1, 0, none⟩) 2 2 encI [4, 5] w) (h2 : KSl (some ⟨q.2.1, 0, none⟩) 1 1 encI [5] w) (h3 : KSl (some ⟨q.2.2.1, 0, none⟩) 1 1 encI [4] w) : KFt (paX q) w := by
  intro x hx
  simp only [paX, List.mem_cons, List.not_mem_nil, or_false] at hx
  rcases hx with rfl | rfl | rfl | rfl
  · exact h1
  · exact h2
  · exact h3
  · exact KSl_none w
theorem parties_j : Cr Try.prog 54 [] KTrue (fun q : Nat × Nat × Nat × Nat => .slice (some ⟨q.2.2.2, 0, none⟩) 4 4) (fun q => KGs (some ⟨q.2.2.2, 0, none⟩) 4 (paX q)) := by
  refine Cx_of Try.func54 rfl Try.ntmps54 rfl fun w0 M0 => ?_
  refine JC_seq ?_
  refine JC_region ?_
  refine JL_pd rfl (det_assign rfl) ?_
  refine JL_nil ?_
  refine JE_seq ?_
  refine JC_seq ?_
  refine JC_region ?_
  refine JL_pd rfl (det_build rfl (bld_79_0_1 _ _)) ?_
  refine JL_step rfl rfl rfl (jo_buildSlice rfl (bsl_22_2_0_1 _ _)) fun b2 => ?_
  refine JL_pd rfl (det_build rfl (bld_81_0_1_2 _ _ _ _ _ _)) ?_
  refine JL_pd rfl (det_build rfl (bld_79_0_1 _ _)) ?_
  refine JL_step rfl rfl rfl (jo_buildSlice rfl (bsl_22_1_0 _)) fun b5 => ?_
  refine JL_pd rfl (det_build rfl (bld_81_0_1_2 _ _ _ _ _ _)) ?_
  refine JL_pd rfl (det_build rfl (bld_79_0_1 _ _)) ?_
  refine JL_step rfl rfl rfl (jo_buildSlice rfl (bsl_22_1_0 _)) fun b8 => ?_
  refine JL_pd rfl (det_build rfl (bld_81_0_1_2 _ _ _ _ _ _)) ?_
  refine JL_pd rfl (det_build rfl (bld_79_0_1 _ _)) ?_
  refine JL_pd rfl (det_build rfl (bld_81_0_1 _ _ _)) ?_
  refine JL_step rfl rfl rfl (jo_buildSlice rfl (bsl_32_4_0_1_2_3 _ _ _ _ _ _ _ _ _ _ _ _ _ _ _ _ _ _ _ _ _ _ _ _)) fun b12 => ?_
  refine JL_pd rfl (det_assign rfl) ?_
  refine JL_nil ?_
  refine JE_seq ?_
  refine JC_ret ?_
  -- stop: out
  refine JE_lit (enc := encI) b2 2 [4, 5] noFp rfl rfl (by decide) ?_
  refine JE_lit (enc := encI) b5 1 [5] noFp rfl rfl (by decide) ?_
  refine JE_lit (enc := encI) b8 1 [4] noFp rfl rfl (by decide) ?_
  refine JE_lit (enc := encG) b12 4 (paX (b2, b5, b8, b12)) noFp rfl rfl (by decide) ?_
  refine JE_out (.inl rfl) (b2, b5, b8, b12) (results1 Try.results54 (res_tmp rfl)) rfl (List.Perm.refl _) (fun w h => ⟨h.1, pa_ft h.2.2.2.1 h.2.2.1 h.2.1⟩)
theorem al_most {p : List Int} (h : ServeOk 2 paL p) : plannedE alH paL p = 0 ∧ 3 ≤ served p ∧ p.length = 4 ∧ ∀ n ∈ p, -1 ≤ n := by
  have V := vld_of al_f
  have hf := serve_facts V.gr h
  have h1 : isPlan alH.lanes paL p = true := by
    unfold isPlan
    rw [Bool.and_eq_true, decide_eq_true_eq, List.all_eq_true]
    refine ⟨fun n hn => inI_iff.2 ?_, hf.n⟩
    have := hf.lane n hn
    show -1 ≤ n ∧ n ≤ 2 - 1
    omega
  have h2 : rightB paL p = true := decide_eq_true hf.right
  refine ⟨by unfold plannedE; rw [if_neg (by rw [al_f]; decide), if_neg (by rw [h1]; decide), if_neg (by rw [h2]; decide)], ?_, hf.n, fun n hn => (hf.lane n hn).1⟩
  have := serve_most hf (q := [0, 1, -1, 0]) rfl (by decide) (by decide +kernel)
  exact this
theorem al_b : boundE (alX 0) paL [3] = .tuple #[I 3, I 0] := by
  unfold boundE
  rw [if_pos (by decide +kernel), show boundL (alX 0).h.lanes.toNat paL [3] = 3 by decide +kernel]; rfl
theorem al_l : laterE (alX 0) paL [0, 1, -1, 0] 2 = (1, 5, 0) := by decide +kernel
theorem al_k : lackE (alX 0) [4, 4, 5, 5] [4, 5] = .tuple #[I 1, I 0] := by
  unfold lackE
  rw [if_neg (by decide +kernel), if_pos (by decide +kernel), show lack (alX 0).h.shoes [4, 4, 5, 5] [4, 5] = 1 by decide +kernel]
theorem wBound_j (b : Nat) (q : Nat × Nat × Nat × Nat) (c : Nat) : Cv Try.prog 42 [.agg #[I 2, .slice (some ⟨b, 0, none⟩) 10 10], .slice (some ⟨q.2.2.2, 0, none⟩) 4 4, .slice (some ⟨c, 0, none⟩) 1 1] (KAnd (KHx (alX b)) (KAnd (KGs (some ⟨q.2.2.2, 0, none⟩) 4 (paX q)) (KSl (some ⟨c, 0, none⟩) 1 1 encI [3]))) (.tuple #[I 3, I 0]) := by
  have h := Bound_jo (alX b) (some ⟨q.2.2.2, 0, none⟩) 4 (paX q) (some ⟨c, 0, none⟩) 1 [3] al_f (by decide)
  rw [pa_gs, show boundE (alX b) paL [3] = boundE (alX 0) paL [3] from rfl, al_b] at h
  exact h
theorem wLater_j (b : Nat) (q : Nat × Nat × Nat × Nat) (c : Nat) : Cv Try.prog 30 [.agg #[I 2, .slice (some ⟨b, 0, none⟩) 10 10], .slice (some ⟨q.2.2.2, 0, none⟩) 4 4, .slice (some ⟨c, 0, none⟩) 4 4, I 2] (KAnd (KHx (alX b)) (KAnd (KGs (some ⟨q.2.2.2, 0, none⟩) 4 (paX q)) (KSl (some ⟨c, 0, none⟩) 4 4 encI [0, 1, -1, 0]))) (.tuple #[I 1, I 5, I 0]) := by
  have h := Later_j (alX b) (some ⟨q.2.2.2, 0, none⟩) 4 (paX q) (some ⟨c, 0, none⟩) 4 [0, 1, -1, 0] 2
  rw [pa_gs, show laterE (alX b) paL [0, 1, -1, 0] 2 = laterE (alX 0) paL [0, 1, -1, 0] 2 from rfl, al_l] at h
  exact h
theorem wLack_j (b c d : Nat) : Cv Try.prog 47 [.agg #[I 2, .slice (some ⟨b, 0, none⟩) 10 10], .slice (some ⟨c, 0, none⟩) 4 4, .slice (some ⟨d, 0, none⟩) 2 2] (KAnd (KHx (alX b)) (KAnd (KSl (some ⟨c, 0, none⟩) 4 4 encI [4, 4, 5, 5]) (KSl (some ⟨d, 0, none⟩) 2 2 encI [4, 5]))) (.tuple #[I 1, I 0]) := by
  have h := Lack_j (alX b) (some ⟨c, 0, none⟩) 4 [4, 4, 5, 5] (some ⟨d, 0, none⟩) 2 [4, 5]
  rw [show lackE (alX b) [4, 4, 5, 5] [4, 5] = lackE (alX 0) [4, 4, 5, 5] [4, 5] from rfl, al_k] at h
  exact h
theorem wProve_j (b : Nat) (q : Nat × Nat × Nat × Nat) (c : Nat) (p : List Int) (h : ServeOk 2 paL p) : Cv Try.prog 22 [.agg #[I 2, .slice (some ⟨b, 0, none⟩) 10 10], .slice (some ⟨q.2.2.2, 0, none⟩) 4 4, .slice (some ⟨c, 0, none⟩) 4 4, I 3] (KAnd (KHx (alX b)) (KAnd (KGs (some ⟨q.2.2.2, 0, none⟩) 4 (paX q)) (KSl (some ⟨c, 0, none⟩) 4 4 encI p))) (.bool true) := by
  obtain ⟨h1, h2, h3, h4⟩ := al_most h
  have hp := ProvePlan_j (alX b) (some ⟨q.2.2.2, 0, none⟩) 4 (paX q) (some ⟨c, 0, none⟩) 4 p 3
  rw [pa_gs, h3, decide_eq_true (show plannedE (alX b).h paL p = 0 from h1), decide_eq_true (show (3 : Int) ≤ (served p : Nat) by omega)] at hp
  exact hp
set_option maxRecDepth 100000 in
theorem awake_j : Cv Try.prog 17 [] KTrue (.bool true) := by
  refine Cx_of Try.func17 rfl Try.ntmps17 rfl fun w0 M0 => ?_
  refine JC_seq ?_
  refine JC_region ?_
  refine JL_pd rfl (det_assign rfl) ?_
  refine JL_nil ?_
  refine JE_seq ?_
  refine JC_seq ?_
  refine JC_region ?_
  refine JL_step rfl rfl rfl (jo_call rfl rfl Try.call53 rfl (alley_j)) fun x11 => ?_
  refine JL_step rfl rfl rfl (jo_call rfl rfl Try.call54 rfl (parties_j)) fun x12 => ?_
  -- stop: op  2 t13 := (call (Call (value f21) (t11 t12) (30 32)))   <0 1 1>   58
  refine JL_step rfl rfl rfl (jo_call rfl rfl Try.call21 rfl (Serve_jo (alX x11) (some ⟨x12.2.2.2, 0, none⟩) 4 (paX x12) al_f)) fun ⟨pb, p, hp⟩ => ?_
  refine JL_pd rfl (det_move rfl) ?_
  refine JL_pd rfl (det_extract rfl rfl) ?_
  refine JL_pd rfl (det_extract rfl rfl) ?_
  refine JL_pd rfl (det_assign rfl) ?_
  refine JL_pd rfl (det_assign rfl) ?_
  refine JL_nil ?_
  refine JE_seq ?_
  refine JC_seq ?_
  refine JC_region ?_
  refine JL_step rfl rfl rfl (jo_call rfl rfl Try.call53 rfl (alley_j)) fun x17 => ?_
  refine JL_step rfl rfl rfl (jo_call rfl rfl Try.call54 rfl (parties_j)) fun x18 => ?_
  refine JL_step rfl rfl rfl (jo_buildSlice rfl (bsl_22_1_0 _)) fun b19 => ?_
  -- stop: op  3 t20 := (call (Call (value f42) (t17 t18 t19) (30 32 22)))   <0 1 2 1>   59
  refine JL_lit (enc := encI) b19 1 [3] noFp rfl rfl (by decide) ?_
  refine JL_step rfl rfl rfl (jo_callv rfl rfl Try.call42 rfl (wBound_j x17 x18 b19)) fun _ => ?_
  refine JL_pd rfl (det_move rfl) ?_
  refine JL_pd rfl (det_extract rfl rfl) ?_
  refine JL_pd rfl (det_extract rfl rfl) ?_
  refine JL_pd rfl (det_assign rfl) ?_
  refine JL_pd rfl (det_assign rfl) ?_
  refine JL_nil ?_
  refine JE_seq ?_
  refine JC_seq ?_
  refine JC_region ?_
  refine JL_step rfl rfl rfl (jo_call rfl rfl Try.call53 rfl (alley_j)) fun x24 => ?_
  refine JL_step rfl rfl rfl (jo_call rfl rfl Try.call54 rfl (parties_j)) fun x25 => ?_
  refine JL_step rfl rfl rfl (jo_buildSlice rfl (bsl_22_4_0_1_2_3 _ _ _ _)) fun b26 => ?_
  -- stop: op  3 t27 := (call (Call (value f30) (t24 t25 t26 2) (30 32 22 3)))   <0 1 2 1>   60
  refine JL_lit (enc := encI) b26 4 [0, 1, -1, 0] noFp rfl rfl (by decide) ?_
  refine JL_step rfl rfl rfl (jo_callv rfl rfl Try.call30 rfl (wLater_j x24 x25 b26)) fun _ => ?_
  refine JL_pd rfl (det_move rfl) ?_
  refine JL_pd rfl (det_extract rfl rfl) ?_
  refine JL_pd rfl (det_extract rfl rfl) ?_
  refine JL_pd rfl (det_extract rfl rfl) ?_
  refine JL_pd rfl (det_assign rfl) ?_
  refine JL_pd rfl (det_assign rfl) ?_
  refine JL_pd rfl (det_assign rfl) ?_
  refine JL_nil ?_
  refine JE_seq ?_
  refine JC_seq ?_
  refine JC_region ?_
  refine JL_step rfl rfl rfl (jo_call rfl rfl Try.call53 rfl (alley_j)) fun x32 => ?_
  refine JL_step rfl rfl rfl (jo_buildSlice rfl (bsl_22_4_0_1_2_3 _ _ _ _)) fun b33 => ?_
  refine JL_step rfl rfl rfl (jo_buildSlice rfl (bsl_22_2_0_1 _ _)) fun b34 => ?_
  -- stop: op  3 t35 := (call (Call (value f47) (t32 t33 t34) (30 22 22)))   <0 1 2 0>   61
  refine JL_lit (enc := encI) b33 4 [4, 4, 5, 5] noFp rfl rfl (by decide) ?_
  refine JL_lit (enc := encI) b34 2 [4, 5] noFp rfl rfl (by decide) ?_
  refine JL_step rfl rfl rfl (jo_callv rfl rfl Try.call47 rfl (wLack_j x32 b33 b34)) fun _ => ?_
  refine JL_pd rfl (det_move rfl) ?_
  refine JL_pd rfl (det_extract rfl rfl) ?_
  refine JL_pd rfl (det_extract rfl rfl) ?_
  refine JL_pd rfl (det_assign rfl) ?_
  refine JL_pd rfl (det_assign rfl) ?_
  refine JL_nil ?_
  refine JE_seq ?_
  refine JC_seq ?_
  refine JC_region ?_
  refine JL_pd rfl (det_move rfl) ?_
  refine JL_pd rfl (det_eql rfl rfl) ?_
  refine JL_pd rfl (det_move rfl) ?_
  -- stop: guard 2
  refine JL_is (d0 := 40) true rfl (by decide) (fun h1 => ?_)
  refine JL_guard rfl rfl h1 ?_
  refine JL_step rfl rfl rfl (jo_call rfl rfl Try.call53 rfl (alley_j)) fun x41 => ?_
  refine JL_guard rfl rfl h1 ?_
  refine JL_step rfl rfl rfl (jo_call rfl rfl Try.call54 rfl (parties_j)) fun x42 => ?_
  refine JL_guard rfl rfl h1 ?_
  refine JL_pd rfl (det_move rfl) ?_
  refine JL_guard rfl rfl h1 ?_
  refine JL_step rfl rfl rfl (jo_callv rfl rfl Try.call22 rfl (wProve_j _ _ pb p hp)) fun _ => ?_
  refine JL_pd rfl (det_pick_t rfl h1 rfl) ?_
  refine JL_pd rfl (det_move rfl) ?_
  refine JL_is (d0 := 46) true rfl (by decide) (fun h2 => ?_)
  refine JL_guard rfl rfl h2 ?_
  refine JL_pd rfl (det_move rfl) ?_
  refine JL_guard rfl rfl h2 ?_
  refine JL_pd rfl (det_eql rfl rfl) ?_
  refine JL_pd rfl (det_pick_t rfl h2 rfl) ?_
  refine JL_pd rfl (det_move rfl) ?_
  refine JL_is (d0 := 50) true rfl (by decide) (fun h3 => ?_)
  refine JL_guard rfl rfl h3 ?_
  refine JL_pd rfl (det_move rfl) ?_
  refine JL_guard rfl rfl h3 ?_
  refine JL_pd rfl (det_eql rfl rfl) ?_
  refine JL_pd rfl (det_pick_t rfl h3 rfl) ?_
  refine JL_pd rfl (det_move rfl) ?_
  refine JL_is (d0 := 54) true rfl (by decide) (fun h4 => ?_)
  refine JL_guard rfl rfl h4 ?_
  refine JL_pd rfl (det_move rfl) ?_
  refine JL_guard rfl rfl h4 ?_
  refine JL_pd rfl (det_eql rfl rfl) ?_
  refine JL_pd rfl (det_pick_t rfl h4 rfl) ?_
  refine JL_pd rfl (det_move rfl) ?_
  refine JL_is (d0 := 58) true rfl (by decide) (fun h5 => ?_)
  refine JL_guard rfl rfl h5 ?_
  refine JL_pd rfl (det_move rfl) ?_
  refine JL_guard rfl rfl h5 ?_
  refine JL_pd rfl (det_eql rfl rfl) ?_
  refine JL_pd rfl (det_pick_t rfl h5 rfl) ?_
  refine JL_pd rfl (det_move rfl) ?_
  refine JL_is (d0 := 62) true rfl (by decide) (fun h6 => ?_)
  refine JL_guard rfl rfl h6 ?_
  refine JL_pd rfl (det_move rfl) ?_
  refine JL_guard rfl rfl h6 ?_
  refine JL_pd rfl (det_eql rfl rfl) ?_
  refine JL_pd rfl (det_pick_t rfl h6 rfl) ?_
  refine JL_pd rfl (det_move rfl) ?_
  refine JL_is (d0 := 66) true rfl (by decide) (fun h7 => ?_)
  refine JL_guard rfl rfl h7 ?_
  refine JL_pd rfl (det_move rfl) ?_
  refine JL_guard rfl rfl h7 ?_
  refine JL_pd rfl (det_eql rfl rfl) ?_
  refine JL_pd rfl (det_pick_t rfl h7 rfl) ?_
  refine JL_pd rfl (det_move rfl) ?_
  refine JL_is (d0 := 70) true rfl (by decide) (fun h8 => ?_)
  refine JL_guard rfl rfl h8 ?_
  refine JL_pd rfl (det_move rfl) ?_
  refine JL_guard rfl rfl h8 ?_
  refine JL_pd rfl (det_eql rfl rfl) ?_
  refine JL_pd rfl (det_pick_t rfl h8 rfl) ?_
  refine JL_pd rfl (det_assign rfl) ?_
  refine JL_nil ?_
  refine JE_seq ?_
  refine JC_ret ?_
  refine JE_out (.inl rfl) () (results1 Try.results17 (res_tmp rfl)) ?_ (List.Perm.refl _) (fun _ _ => trivial)
  rfl
end Go.Proofs.Ytkmaafnbefpdjaa

/- The statements about lend: the program's functions of copies; LendServes. -/
namespace Go.Proofs.Ytkmaafnbefpdjaa
open Go.RowKit Go.Shelf

theorem Cr.conv {P : Program} {f : FuncId} {args : List Value} {pre : World → Prop} {α : Type} {ret ret' : α → Value} {post post' : α → World → Prop} (h : Cr P f args pre ret post) (h1 : ∀ x, ret x = ret' x) (h2 : ∀ x w, post x w → post' x w) : Cr P f args pre ret' post' := by
  have e : ret = ret' := funext h1
  subst e
  exact h.mono (fun _ h => h) h2
abbrev QH := Option Addr × Nat
abbrev QG (xs : List Gx) := Option Addr × Nat × { ys : List Gx // gs ys = gs xs }
theorem qg_len {xs : List Gx} (g : QG xs) : g.2.2.1.length = xs.length := by
  have := congrArg List.length g.2.2.2
  simpa [gs] using this
theorem CheckGroups_c (x : Hx) (q : QH) (xs : List Gx) (g : QG xs) : Cv Try.prog 18 [.agg #[I x.h.lanes, .slice q.1 x.h.shoes.length q.2], .slice g.1 g.2.2.1.length g.2.1] (KAnd (KHx ⟨x.h, q.1, q.2⟩) (KGs g.1 g.2.1 g.2.2.1)) (I (fault x.h (gs xs))) := by
  have h := CheckGroups_j ⟨x.h, q.1, q.2⟩ g.1 g.2.1 g.2.2.1
  rwa [g.2.2.2] at h
theorem Serve_ce (x : Hx) (q : QH) (xs : List Gx) (g : QG xs) (h : fault x.h (gs xs) ≠ 0) : Cv Try.prog 21 [.agg #[I x.h.lanes, .slice q.1 x.h.shoes.length q.2], .slice g.1 g.2.2.1.length g.2.1] (KAnd (KHx ⟨x.h, q.1, q.2⟩) (KGs g.1 g.2.1 g.2.2.1)) (.tuple #[.slice none 0 0, I (fault x.h (gs xs))]) := by
  have h := Serve_je ⟨x.h, q.1, q.2⟩ g.1 g.2.1 g.2.2.1 (by rw [g.2.2.2]; exact h)
  rwa [g.2.2.2] at h
abbrev QS (k : Nat) (l : List Gr) := Nat × { p : List Int // ServeOk k l p }
theorem Serve_c (x : Hx) (q : QH) (xs : List Gx) (g : QG xs) (h : fault x.h (gs xs) = 0) : Cr Try.prog 21 [.agg #[I x.h.lanes, .slice q.1 x.h.shoes.length q.2], .slice g.1 g.2.2.1.length g.2.1] (KAnd (KHx ⟨x.h, q.1, q.2⟩) (KGs g.1 g.2.1 g.2.2.1)) (fun p : QS x.h.lanes.toNat (gs xs) => .tuple #[.slice (some ⟨p.1, 0, none⟩) p.2.1.length p.2.1.length, I 0]) (fun p => KSl (some ⟨p.1, 0, none⟩) p.2.1.length p.2.1.length encI p.2.1) := by
  have h := Serve_jo ⟨x.h, q.1, q.2⟩ g.1 g.2.1 g.2.2.1 (by rw [g.2.2.2]; exact h)
  rw [g.2.2.2] at h
  have hl : ∀ p : QS x.h.lanes.toNat (gs xs), p.2.1.length = g.2.2.1.length := fun p => by rw [qg_len, p.2.2.1]; exact List.length_map _
  exact h.conv (fun p => by rw [hl]) fun p w hw => by rw [hl]; exact hw
theorem ProvePlan_c (x : Hx) (q : QH) (xs : List Gx) (g : QG xs) (plan : List Int) (a : Option Addr) (c : Nat) (many : Int) : Cv Try.prog 22 [.agg #[I x.h.lanes, .slice q.1 x.h.shoes.length q.2], .slice g.1 g.2.2.1.length g.2.1, .slice a plan.length c, I many] (KAnd (KHx ⟨x.h, q.1, q.2⟩) (KAnd (KGs g.1 g.2.1 g.2.2.1) (KSl a plan.length c encI plan))) (.bool (decide (plannedE x.h (gs xs) plan = 0) && decide (many ≤ (served plan : Nat)))) := by
  have h := ProvePlan_j ⟨x.h, q.1, q.2⟩ g.1 g.2.1 g.2.2.1 a c plan many
  rwa [g.2.2.2] at h
theorem Bound_ce (x : Hx) (q : QH) (xs : List Gx) (g : QG xs) (T : List Int) (a : Option Addr) (c : Nat) (h : fault x.h (gs xs) ≠ 0) : Cv Try.prog 42 [.agg #[I x.h.lanes, .slice q.1 x.h.shoes.length q.2], .slice g.1 g.2.2.1.length g.2.1, .slice a T.length c] (KAnd (KHx ⟨x.h, q.1, q.2⟩) (KAnd (KGs g.1 g.2.1 g.2.2.1) (KSl a T.length c encI T))) (.tuple #[I 0, I (fault x.h (gs xs))]) := by
  have h := Bound_je ⟨x.h, q.1, q.2⟩ g.1 g.2.1 g.2.2.1 a c T (by rw [g.2.2.2]; exact h)
  rwa [g.2.2.2] at h
theorem Bound_c (x : Hx) (q : QH) (xs : List Gx) (g : QG xs) (T : List Int) (a : Option Addr) (c : Nat) (h : fault x.h (gs xs) = 0) (hT : T.length ≤ 1000) : Cv Try.prog 42 [.agg #[I x.h.lanes, .slice q.1 x.h.shoes.length q.2], .slice g.1 g.2.2.1.length g.2.1, .slice a T.length c] (KAnd (KHx ⟨x.h, q.1, q.2⟩) (KAnd (KGs g.1 g.2.1 g.2.2.1) (KSl a T.length c encI T))) (boundE x (gs xs) T) := by
  have h := Bound_jo ⟨x.h, q.1, q.2⟩ g.1 g.2.1 g.2.2.1 a c T (by rw [g.2.2.2]; exact h) hT
  rwa [g.2.2.2] at h
theorem Later_c (x : Hx) (q : QH) (xs : List Gx) (g : QG xs) (plan : List Int) (a : Option Addr) (c : Nat) (group : Int) : Cv Try.prog 30 [.agg #[I x.h.lanes, .slice q.1 x.h.shoes.length q.2], .slice g.1 g.2.2.1.length g.2.1, .slice a plan.length c, I group] (KAnd (KHx ⟨x.h, q.1, q.2⟩) (KAnd (KGs g.1 g.2.1 g.2.2.1) (KSl a plan.length c encI plan))) (tup3 (laterE x (gs xs) plan group)) := by
  have h := Later_j ⟨x.h, q.1, q.2⟩ g.1 g.2.1 g.2.2.1 a c plan group
  rwa [g.2.2.2] at h
theorem Lack_c (x : Hx) (q : QH) (feet S : List Int) (a sa : Option Addr) (c sc : Nat) : Cv Try.prog 47 [.agg #[I x.h.lanes, .slice q.1 x.h.shoes.length q.2], .slice a feet.length c, .slice sa S.length sc] (KAnd (KHx ⟨x.h, q.1, q.2⟩) (KAnd (KSl a feet.length c encI feet) (KSl sa S.length sc encI S))) (lackE x feet S) := Lack_j ⟨x.h, q.1, q.2⟩ a c feet sa sc S
theorem IsPlan_ok {x : Hx} {xs : List Gx} {p : List Int} (h : ServeFacts x.h.lanes.toNat (gs xs) p) (hl : 0 ≤ x.h.lanes) : (p.all (fun m => inI m (-1) (x.h.lanes - 1)) && decide (p.length = xs.length)) = true := by
  rw [Bool.and_eq_true, decide_eq_true_eq, List.all_eq_true]
  refine ⟨fun n hn => inI_iff.2 ?_, by rw [h.n]; exact List.length_map _⟩
  have := h.lane n hn
  omega
end Go.Proofs.Ytkmaafnbefpdjaa

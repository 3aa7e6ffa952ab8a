/- Own texts, laid together: E15 E16 E18 E19p E21p E24p E26 E28 E29. Nothing is asked. -/
import Derived.Test.YthpkgabckklojaaGreatZB
import Derived.Test.YthpkgabckklojaaGreatZ3
import Derived.Test.YthpkgabckklojaaGreatZ4
set_option linter.unusedSimpArgs false
set_option linter.unusedVariables false
/- Walks of the laws and the reference of lend: copies, what is thin, what is valid. -/
namespace Go.Proofs.YthpkgabckklojaaGreat.En
open Go.RowKit Go.Shelf

theorem snoc_len {α : Type} {l : List α} {i : Nat} (h : i < l.length) : (l.take i).length + 1 = (l.take (i + 1)).length := by rw [take_snoc h, List.length_append]; rfl
theorem snoc_flat {α : Type} (e : α → List Value) {l : List α} {i : Nat} (h : i < l.length) : (l.take i).flatMap e ++ e l[i] = (l.take (i + 1)).flatMap e := by rw [take_snoc h, List.flatMap_append, List.flatMap_cons, List.flatMap_nil, List.append_nil]
theorem encI_one (y : Int) : (encI y).all (·.oneCell') = true := rfl
theorem all_snoc {α : Type} {p : α → Bool} {l : List α} {i : Nat} (h : i < l.length) (h1 : (l.take i).all p = true) (h2 : p l[i] = true) : (l.take (i + 1)).all p = true := by
  rw [take_snoc h, List.all_append, h1]; simp [h2]
theorem all_no {α : Type} {p : α → Bool} {l : List α} {i : Nat} (h : i < l.length) (h2 : p l[i] = false) : l.all p = false := by
  cases ha : l.all p
  · rfl
  · have := List.all_eq_true.1 ha _ (List.getElem_mem h); rw [h2] at this; cases this
theorem lList_j (xs : List Int) (a : Option Addr) (cap : Nat) (hx : xs.length ≤ 1000000) : Cr Tryz.prog 83 [.slice a xs.length cap] (KSl a xs.length cap encI xs) (fun q : Option Addr × Nat => .slice q.1 xs.length q.2) (fun q => KSl q.1 xs.length q.2 encI xs) := by
  refine Cx_of Tryz.func83 rfl Tryz.ntmps83 rfl fun w0 M0 => ?_
  refine JC_seq ?_
  refine JC_region ?_
  refine JL_pd rfl (det_assign rfl) ?_
  refine JL_nil ?_
  refine JE_seq ?_
  refine JC_seq ?_
  refine JC_region ?_
  refine JL_pd rfl (det_move rfl) ?_
  -- stop: op  1 t4 := (call (Call (builtin append) ((slice none 0 0) t3) (31 31)))   <0>   11
  refine JL_nilS 3 1 ?_
  refine JL_step rfl rfl rfl (jo_appendK (e := encI) el_31 rfl rfl encI_one (by simpa using hx)) fun v => ?_
  refine JL_pd rfl (det_assign rfl) ?_
  refine JL_nil ?_
  refine JE_seq ?_
  refine JC_ret ?_
  -- stop: out
  refine JE_slice (enc := encI) (v := v) xs noFp (by simp) (by simp) ?_
  rintro a' cap' h
  subst h
  simp only [Nat.zero_add]
  refine JE_out (.inl rfl) (a', cap') (results1 Tryz.results83 (res_tmp rfl)) rfl (List.Perm.refl _) (fun w h => h.1)
set_option maxRecDepth 100000 in
theorem lHouse_j (x : Hx) (hx : x.h.shoes.length ≤ 1000000) : Cr Tryz.prog 32 [.agg #[I x.h.lanes, .slice x.a x.h.shoes.length x.c]] (KHx x) (fun q : Option Addr × Nat => .agg #[I x.h.lanes, .slice q.1 x.h.shoes.length q.2]) (fun q => KHx ⟨x.h, q.1, q.2⟩) := by
  refine Cx_of Tryz.func32 rfl Tryz.ntmps32 rfl fun w0 M0 => ?_
  refine JC_seq ?_
  refine JC_region ?_
  refine JL_step rfl rfl rfl (jo_box rfl rfl) fun b1 => ?_
  refine JL_step rfl rfl rfl (jo_alloc0 Tryz.zeroValue86 rfl) fun b2 => ?_
  refine JL_nil ?_
  refine JE_seq ?_
  refine JC_seq ?_
  -- stop: draw
  refine JC_keep b1 noFp ?_
  refine JC_cutK (γ := Option Addr × Nat) (fun _ => True) (fun x7 => [(2, pt b2)]) (fun x7 => [bx b2 [I x.h.lanes, .slice x7.1 x.h.shoes.length x7.2]]) (fun x7 => KSl x7.1 x.h.shoes.length x7.2 encI x.h.shoes) [] (fun K hK => ?_) (fun x7 _ => ?_)
  · refine JC_draw [6] (by kernel_rfl) ?_
    refine JA_pd (i := 0) rfl (by kernel_rfl) rfl rfl (det_fieldAddr rfl fo_79_0) ?_
    refine JA_dt (i := 1) rfl (by kernel_rfl) (by kernel_rfl) rfl rfl (det_loadK rfl Tryz.isAgg3 rfl) ?_
    refine JA_pd (i := 2) rfl (by kernel_rfl) rfl rfl (det_fieldAddr rfl fo_79_1) ?_
    refine JA_dt (i := 3) rfl (by kernel_rfl) (by kernel_rfl) rfl rfl (det_loadK rfl Tryz.isAgg31 rfl) ?_
    refine JA_one (i := 4) (by kernel_rfl) rfl rfl (jo_call rfl rfl Tryz.call83 rfl (lList_j x.h.shoes x.a x.c hx)) (fun _ => ⟨hsub_drop 0 rfl, fun _ h => h.2⟩) fun x7 => ?_
    refine JA_pd (i := 5) rfl (by kernel_rfl) rfl rfl (det_build rfl (bld_86_0_1 _ _ _ _)) ?_
    refine JA_tail (i := 6) (by kernel_rfl) rfl rfl rfl rfl (jo_store rfl rfl rfl (by first | (simp only [splice_norm]; done) | (simp only [splice_norm]; rfl) | rfl) Tryz.sizeOf86 rfl rfl) fun _ => ?_
    refine JT_done (by kernel_rfl) ?_
    exact JE_cutK hK x7 trivial (stsub_cons rfl stsub_nil) (ht_bx rfl ht_nil)
  dsimp only [List.cons_append, List.nil_append]
  refine JC_ret ?_
  -- stop: out
  refine JE_out (.inl rfl) x7 (results1 Tryz.results32 (res_box rfl Tryz.isAgg86 Tryz.sizeOf86 rfl)) rfl (List.Perm.refl _) (fun w h => h.1)
theorem KFt_snoc {ys : List Gx} {y : Gx} {w : World} (h : KFt ys w) (h2 : KSl y.a y.g.feet.length y.c encI y.g.feet w) : KFt (ys ++ [y]) w := fun x hx => by
  rcases List.mem_append.1 hx with hx | hx
  · exact h x hx
  · rw [List.mem_singleton.1 hx]; exact h2
set_option maxRecDepth 100000 in
theorem lGroups_j (a : Option Addr) (c : Nat) (xs : List Gx) (hn : xs.length ≤ 1000) (hf : ∀ x ∈ xs, x.g.feet.length ≤ 1000) : Cr Tryz.prog 33 [.slice a xs.length c] (KGs a c xs) (fun q : Option Addr × Nat × { ys : List Gx // gs ys = gs xs } => .slice q.1 q.2.2.1.length q.2.1) (fun q => KGs q.1 q.2.1 q.2.2.1) := by
  refine Cx_of Tryz.func33 rfl Tryz.ntmps33 rfl fun w0 M0 => ?_
  refine JC_seq ?_
  refine JC_region ?_
  refine JL_pd rfl (det_assign rfl) ?_
  refine JL_nil ?_
  refine JE_seq ?_
  refine JC_seq ?_
  refine JC_region ?_
  refine JL_pd rfl (det_assign rfl) ?_
  refine JL_nil ?_
  refine JE_seq ?_
  refine JC_seq ?_
  refine JC_seq ?_
  refine JC_region ?_
  refine JL_pd rfl (det_assign rfl) ?_
  refine JL_nil ?_
  refine JE_seq ?_
  refine JC_block ?_
  -- stop: loop
  refine JC_nil 179 4 ?_
  refine JC_loopK (γ := Nat × Value × List Gx) (fun q => q.1 ≤ xs.length ∧ gs q.2.2 = (gs xs).take q.1) (fun q => [(4, I q.1), (3, q.2.1)]) (fun q => [ow q.2.1 179 4 q.2.2.length (q.2.2.flatMap encG)]) (fun q => KFt q.2.2) (fun q => xs.length - q.1) (0, .slice none 0 0, []) ⟨Nat.zero_le _, rfl⟩ (stsub_consI rfl rfl (stsub_cons rfl stsub_nil)) (ht_ow rfl rfl ht_nil) (fun w _ => by intro x hx; cases hx) ?_
  rintro ⟨i, v, ys⟩ ⟨hi, hg⟩ K hK
  dsimp only [List.cons_append, List.nil_append] at hi hg ⊢
  have hyl : ys.length = i := by
    have := congrArg List.length hg
    simp only [gs, List.length_map, List.length_take] at this; omega
  refine JC_seq ?_
  refine JC_seq ?_
  refine JC_region ?_
  refine JL_pd rfl (det_move rfl) ?_
  refine JL_pd rfl (det_move rfl) ?_
  refine JL_pd rfl (det_len rfl Tryz.runUnderlying80) ?_
  refine JL_pd rfl (det_lss rfl rfl) ?_
  refine JL_nil ?_
  refine JE_seq ?_
  -- stop: cond
  refine JC_if rfl (fun h1 => ?_) (fun h1 => ?_)
  · have hi2 : i < xs.length := by omega
    have hfi := hf _ (List.getElem_mem hi2)
    refine JC_know (R' := KAnd (KSl xs[i].a xs[i].g.feet.length xs[i].c encI xs[i].g.feet) _) (fun w h => ⟨h.2.2 _ (List.getElem_mem hi2), h⟩) ?_
    refine JC_skip ?_
    refine JE_seq ?_
    refine JC_seq ?_
    refine JC_block ?_
    refine JC_draw [27] (by kernel_rfl) ?_
    refine JA_pd (i := 0) rfl (by kernel_rfl) rfl rfl (det_move rfl) ?_
    refine JA_pd (i := 1) rfl (by kernel_rfl) rfl rfl (det_move rfl) ?_
    refine JA_pd (i := 2) rfl (by kernel_rfl) rfl rfl (det_move rfl) ?_
    refine JA_dt (i := 3) rfl (by kernel_rfl) (by kernel_rfl) rfl rfl (det_indexAddr rfl rfl (by first | rfl | omega) (by first | assumption | omega | decide) Tryz.runUnderlying80 Tryz.sizeOf92) ?_
    refine JA_pd (i := 4) rfl (by kernel_rfl) rfl rfl (det_fieldAddrE rfl fo_92_0) ?_
    refine JA_dt (i := 5) rfl (by kernel_rfl) (by kernel_rfl) rfl rfl (det_loadEk rfl (by first | assumption | omega | decide) Tryz.isAgg3 rfl rfl) ?_
    refine JA_pd (i := 6) rfl (by kernel_rfl) rfl rfl (det_move rfl) ?_
    refine JA_pd (i := 7) rfl (by kernel_rfl) rfl rfl (det_move rfl) ?_
    refine JA_dt (i := 8) rfl (by kernel_rfl) (by kernel_rfl) rfl rfl (det_indexAddr rfl rfl (by first | rfl | omega) (by first | assumption | omega | decide) Tryz.runUnderlying80 Tryz.sizeOf92) ?_
    refine JA_pd (i := 9) rfl (by kernel_rfl) rfl rfl (det_fieldAddrE rfl fo_92_1) ?_
    refine JA_pd (i := 10) rfl (by kernel_rfl) rfl rfl (det_fieldAddrEk (k2 := 1) rfl fo_90_0 rfl) ?_
    refine JA_dt (i := 11) rfl (by kernel_rfl) (by kernel_rfl) rfl rfl (det_loadEk rfl (by first | assumption | omega | decide) Tryz.isAgg3 rfl rfl) ?_
    refine JA_pd (i := 12) rfl (by kernel_rfl) rfl rfl (det_move rfl) ?_
    refine JA_pd (i := 13) rfl (by kernel_rfl) rfl rfl (det_move rfl) ?_
    refine JA_dt (i := 14) rfl (by kernel_rfl) (by kernel_rfl) rfl rfl (det_indexAddr rfl rfl (by first | rfl | omega) (by first | assumption | omega | decide) Tryz.runUnderlying80 Tryz.sizeOf92) ?_
    refine JA_pd (i := 15) rfl (by kernel_rfl) rfl rfl (det_fieldAddrE rfl fo_92_1) ?_
    refine JA_pd (i := 16) rfl (by kernel_rfl) rfl rfl (det_fieldAddrEk (k2 := 2) rfl fo_90_1 rfl) ?_
    refine JA_dt (i := 17) rfl (by kernel_rfl) (by kernel_rfl) rfl rfl (det_loadEk rfl (by first | assumption | omega | decide) Tryz.isAgg3 rfl rfl) ?_
    refine JA_pd (i := 18) rfl (by kernel_rfl) rfl rfl (det_build rfl (bld_177_0_1 _ _)) ?_
    refine JA_pd (i := 19) rfl (by kernel_rfl) rfl rfl (det_move rfl) ?_
    refine JA_pd (i := 20) rfl (by kernel_rfl) rfl rfl (det_move rfl) ?_
    refine JA_dt (i := 21) rfl (by kernel_rfl) (by kernel_rfl) rfl rfl (det_indexAddr rfl rfl (by first | rfl | omega) (by first | assumption | omega | decide) Tryz.runUnderlying80 Tryz.sizeOf92) ?_
    refine JA_pd (i := 22) rfl (by kernel_rfl) rfl rfl (det_fieldAddrE rfl fo_92_2) ?_
    refine JA_dt (i := 23) rfl (by kernel_rfl) (by kernel_rfl) rfl rfl (det_loadEk rfl (by first | assumption | omega | decide) Tryz.isAgg31 rfl rfl) ?_
    refine JA_one (i := 24) (by kernel_rfl) rfl rfl (jo_call rfl rfl Tryz.call83 rfl (lList_j xs[i].g.feet xs[i].a xs[i].c (by omega))) (fun _ => ⟨hsub_drop 0 rfl, fun _ h => h.2⟩) fun x35 => ?_
    refine JA_pd (i := 25) rfl (by kernel_rfl) rfl rfl (det_build rfl (bld_179_0_1_2 _ _ _ _ _ _)) ?_
    refine JA_one (i := 26) (by kernel_rfl) rfl rfl (jo_buildSlice rfl (bsl_88_1_0 _ _ _ _ _ _)) (fun _ => ⟨hsub_drop 1 rfl, fun _ h => h⟩) fun b37 => ?_
    refine JA_tail (i := 27) (by kernel_rfl) rfl rfl rfl rfl (jo_append el_88 rfl rfl rfl rfl (by omega)) fun b38 => ?_
    refine JT_pd (i := 28) rfl (by kernel_rfl) rfl rfl (det_assign rfl) ?_
    refine JT_done (by kernel_rfl) ?_
    refine JE_block ?_
    refine JE_seq ?_
    refine JC_region ?_
    refine JL_pd rfl (det_move rfl) ?_
    refine JL_pd rfl (det_add rfl rfl ⟨by omega, by omega⟩) ?_
    refine JL_pd rfl (det_assign rfl) ?_
    refine JL_nil ?_
    -- stop: end
    refine JE_weak (R' := KAnd (KFt (ys ++ [(⟨xs[i].g, x35.1, x35.2⟩ : Gx)])) _) stsub_refl hsub_refl (fun w h => ⟨KFt_snoc (Knows.know w h) (Knows.know w h), h⟩) ?_
    refine JE_roundF hK (i + 1, .slice (some ⟨b38.1, 0, none⟩) (ys.length + 1) b38.2, ys ++ [(⟨xs[i].g, x35.1, x35.2⟩ : Gx)]) ⟨by simp only; omega, ?_⟩ (by simp only; omega) (stsub_consI rfl (by simp only; omega) (stsub_cons rfl stsub_nil)) (ht_ow (by simp) (by simp [encG]) ht_nil)
    simp only
    rw [take_snoc (by simp [gs]; omega), ← hg]
    simp [gs]
  · obtain rfl : i = xs.length := by omega
    rw [List.take_of_length_le (by simp [gs])] at hg
    refine JC_slice (enc := encG) (v := v) ys noFp rfl rfl ?_
    rintro av cv rfl
    refine JC_exit ?_
    refine JE_seq_exit ?_
    refine JE_then_exit ?_
    refine JE_block_here ?_
    refine JE_seq ?_
    refine JC_seq ?_
    refine JC_region ?_
    refine JL_pd rfl (det_move rfl) ?_
    refine JL_pd rfl (det_assign rfl) ?_
    refine JL_nil ?_
    refine JE_seq ?_
    refine JC_ret ?_
    -- stop: out
    refine JE_out (.inl rfl) (av, cv, ⟨ys, hg⟩) (results1 Tryz.results33 (res_tmp rfl)) rfl (List.Perm.refl _) (fun w h => ⟨h.1, h.2.1⟩)
def thinB (h : Hs) (l : List Gr) : Bool := ((l.take 13).all fun g => decide (g.feet.length ≤ 10)) && (decide (h.shoes.length ≤ 14) && decide (l.length ≤ 12))
theorem thin_lens {h : Hs} {l : List Gr} (q : thinB h l = true) : h.shoes.length ≤ 14 ∧ l.length ≤ 12 ∧ ∀ g ∈ l, g.feet.length ≤ 10 := by
  unfold thinB at q
  simp only [Bool.and_eq_true, decide_eq_true_eq] at q
  refine ⟨q.2.1, q.2.2, fun g hg => ?_⟩
  rw [List.take_of_length_le (by omega)] at q
  exact of_decide_eq_true (List.all_eq_true.1 q.1 g hg)
set_option maxRecDepth 100000 in
theorem Thin_j (x : Hx) (a : Option Addr) (c : Nat) (xs : List Gx) : Cv Tryz.prog 27 [.agg #[I x.h.lanes, .slice x.a x.h.shoes.length x.c], .slice a xs.length c] (KSl a xs.length c encG xs) (.bool (thinB x.h (gs xs))) := by
  have hgl : (gs xs).length = xs.length := List.length_map _
  have hall : ((gs xs).take 13).all (fun g => decide (g.feet.length ≤ 10)) = (xs.take 13).all fun y => decide (y.g.feet.length ≤ 10) := by
    rw [gs, ← List.map_take, List.all_map]; rfl
  refine Cx_of Tryz.func27 rfl Tryz.ntmps27 rfl fun w0 M0 => ?_
  refine JC_seq ?_
  refine JC_region ?_
  refine JL_step rfl rfl rfl (jo_box rfl rfl) fun b2 => ?_
  refine JL_pd rfl (det_assign rfl) ?_
  refine JL_nil ?_
  refine JE_seq ?_
  refine JC_seq ?_
  refine JC_seq ?_
  refine JC_region ?_
  refine JL_pd rfl (det_assign rfl) ?_
  refine JL_nil ?_
  refine JE_seq ?_
  refine JC_block ?_
  -- stop: loop
  refine JC_loopF (γ := Nat) (fun i => i ≤ xs.length ∧ i ≤ 13 ∧ (xs.take i).all (fun y => decide (y.g.feet.length ≤ 10)) = true) (fun i => [(5, I i)]) (fun _ => []) (fun i => xs.length - i) 0 ⟨Nat.zero_le _, Nat.zero_le _, rfl⟩ (stsub_consI rfl rfl stsub_nil) ht_nil ?_
  rintro i ⟨hi, hi13, hal⟩ K hK
  dsimp only [List.cons_append, List.nil_append]
  refine JC_seq ?_
  refine JC_seq ?_
  refine JC_region ?_
  refine JL_pd rfl (det_move rfl) ?_
  refine JL_pd rfl (det_move rfl) ?_
  refine JL_pd rfl (det_len rfl Tryz.runUnderlying80) ?_
  refine JL_pd rfl (det_lss rfl rfl) ?_
  refine JL_pd rfl (det_move rfl) ?_
  -- stop: guard 4
  refine JL_join1 3 13 (.bool (decide ((i : Int) < (xs.length : Int)) && decide ((i : Int) < 13))) (fun hj => ?_) ?_
  · refine JL_split (d0 := 10) rfl (fun q1 => ?_) (fun q1 => ?_)
    · refine JL_guard rfl rfl q1 ?_
      refine JL_pd rfl (det_move rfl) ?_
      refine JL_guard rfl rfl q1 ?_
      refine JL_pd rfl (det_lss rfl rfl) ?_
      refine JL_pd rfl (det_pick_t rfl q1 rfl) ?_
      exact hj (by kernel_rfl) (stsub_consB rfl (by clear hj; first | rfl | (simp only [q1, Bool.and_true, Bool.true_and, Bool.false_and, Bool.and_false, Bool.or_true, Bool.true_or, Bool.or_false, Bool.false_or, Bool.not_true, Bool.not_false]; done) | (simp [q1]; done) | (simp at q1; done) | (simp [q1] <;> omega) | (exfalso; simp at q1; omega)) stsub_nil)
    · refine JL_skip rfl rfl q1 rfl ?_
      refine JL_skip rfl rfl q1 rfl ?_
      refine JL_pd rfl (det_pick_f rfl q1 rfl) ?_
      exact hj (by kernel_rfl) (stsub_consB rfl (by clear hj; first | rfl | (simp only [q1, Bool.and_true, Bool.true_and, Bool.false_and, Bool.and_false, Bool.or_true, Bool.true_or, Bool.or_false, Bool.false_or, Bool.not_true, Bool.not_false]; done) | (simp [q1]; done) | (simp at q1; done) | (simp [q1] <;> omega) | (exfalso; simp at q1; omega)) stsub_nil)
  refine JL_nil ?_
  refine JE_seq ?_
  -- stop: cond
  refine JC_cond rfl (fun h1 => ?_) (fun h1 => ?_)
  · have h1' : i < xs.length ∧ i < 13 := by simp at h1; omega
    have hi2 := h1'.1
    have hi3 := h1'.2
    refine JC_skip ?_
    refine JE_seq ?_
    refine JC_seq ?_
    refine JC_block ?_
    refine JC_seq ?_
    refine JC_region ?_
    refine JL_pd rfl (det_move rfl) ?_
    refine JL_pd rfl (det_move rfl) ?_
    refine JL_dt rfl (det_indexAddr rfl rfl (by first | rfl | omega) (by first | assumption | omega | decide) Tryz.runUnderlying80 Tryz.sizeOf92) ?_
    refine JL_pd rfl (det_fieldAddrE rfl fo_92_2) ?_
    refine JL_dt rfl (det_loadEk rfl (by first | assumption | omega | decide) Tryz.isAgg31 rfl rfl) ?_
    refine JL_pd rfl (det_len rfl Tryz.runUnderlying31) ?_
    refine JL_pd rfl (det_gtr rfl rfl) ?_
    refine JL_nil ?_
    refine JE_seq ?_
    -- stop: cond
    refine JC_if rfl (fun h2 => ?_) (fun h2 => ?_)
    · refine JC_seq ?_
      refine JC_region ?_
      refine JL_pd rfl (det_assign rfl) ?_
      refine JL_nil ?_
      refine JE_seq ?_
      refine JC_ret ?_
      refine JE_block_ret ?_
      refine JE_seq_ret ?_
      refine JE_then_ret ?_
      refine JE_block_ret ?_
      refine JE_seq_ret ?_
      -- stop: out
      refine JE_out (.inl rfl) () (results1 Tryz.results27 (res_tmp rfl)) (by unfold thinB; rw [hall, all_no (i := i) (by rw [List.length_take]; omega) (by rw [List.getElem_take]; exact decide_eq_false (by omega)), Bool.false_and]) (List.Perm.refl _) (fun _ _ => trivial)
    · refine JC_skip ?_
      refine JE_block ?_
      refine JE_seq ?_
      refine JC_region ?_
      refine JL_pd rfl (det_move rfl) ?_
      refine JL_pd rfl (det_add rfl rfl ⟨by omega, by omega⟩) ?_
      refine JL_pd rfl (det_assign rfl) ?_
      refine JL_nil ?_
      -- stop: end
      refine JE_roundF hK (i + 1) ⟨by omega, by omega, all_snoc hi2 hal (decide_eq_true (by omega))⟩ (by omega) (stsub_consI rfl (by omega) stsub_nil) ht_nil
  · have h1' : ¬ (i < xs.length ∧ i < 13) := by rintro ⟨q1, q2⟩; simp at h1; have := h1 q1; omega
    have hal2 : (xs.take 13).all (fun y => decide (y.g.feet.length ≤ 10)) = true := by
      by_cases e : i = xs.length
      · rw [List.take_of_length_le (by omega)]; rwa [List.take_of_length_le (by omega)] at hal
      · obtain rfl : i = 13 := by omega
        exact hal
    refine JC_exit ?_
    refine JE_seq_exit ?_
    refine JE_then_exit ?_
    refine JE_block_here ?_
    refine JE_seq ?_
    refine JC_seq ?_
    refine JC_region ?_
    refine JL_pd rfl (det_fieldAddr rfl fo_79_1) ?_
    refine JL_dt rfl (det_loadK rfl Tryz.isAgg31 rfl) ?_
    refine JL_pd rfl (det_len rfl Tryz.runUnderlying31) ?_
    refine JL_pd rfl (det_leq rfl rfl) ?_
    refine JL_pd rfl (det_move rfl) ?_
    -- stop: guard 4
    refine JL_join1 5 4 (.bool (decide ((x.h.shoes.length : Int) ≤ 14) && decide ((xs.length : Int) ≤ 12))) (fun hj => ?_) ?_
    · refine JL_split (d0 := 27) rfl (fun q2 => ?_) (fun q2 => ?_)
      · refine JL_guard rfl rfl q2 ?_
        refine JL_pd rfl (det_move rfl) ?_
        refine JL_guard rfl rfl q2 ?_
        refine JL_pd rfl (det_len rfl Tryz.runUnderlying80) ?_
        refine JL_guard rfl rfl q2 ?_
        refine JL_pd rfl (det_leq rfl rfl) ?_
        refine JL_pd rfl (det_pick_t rfl q2 rfl) ?_
        refine JL_pd rfl (det_assign rfl) ?_
        exact hj (by kernel_rfl) (stsub_consB rfl (by clear hj; first | rfl | (simp only [q2, Bool.and_true, Bool.true_and, Bool.false_and, Bool.and_false, Bool.or_true, Bool.true_or, Bool.or_false, Bool.false_or, Bool.not_true, Bool.not_false]; done) | (simp [q2]; done) | (simp at q2; done) | (simp [q2] <;> omega) | (exfalso; simp at q2; omega)) stsub_nil)
      · refine JL_skip rfl rfl q2 rfl ?_
        refine JL_skip rfl rfl q2 rfl ?_
        refine JL_skip rfl rfl q2 rfl ?_
        refine JL_pd rfl (det_pick_f rfl q2 rfl) ?_
        refine JL_pd rfl (det_assign rfl) ?_
        exact hj (by kernel_rfl) (stsub_consB rfl (by clear hj; first | rfl | (simp only [q2, Bool.and_true, Bool.true_and, Bool.false_and, Bool.and_false, Bool.or_true, Bool.true_or, Bool.or_false, Bool.false_or, Bool.not_true, Bool.not_false]; done) | (simp [q2]; done) | (simp at q2; done) | (simp [q2] <;> omega) | (exfalso; simp at q2; omega)) stsub_nil)
    refine JL_nil ?_
    refine JE_seq ?_
    refine JC_ret ?_
    -- stop: out
    refine JE_out (.inl rfl) () (results1 Tryz.results27 (res_tmp rfl)) (by unfold thinB; rw [hall, hal2, hgl, Bool.true_and, show decide ((x.h.shoes.length : Int) ≤ 14) = decide (x.h.shoes.length ≤ 14) from decide_eq_decide.2 (by omega), show decide ((xs.length : Int) ≤ 12) = decide (xs.length ≤ 12) from decide_eq_decide.2 (by omega)]) (List.Perm.refl _) (fun _ _ => trivial)
theorem In_j (n lo hi : Int) : Cv Tryz.prog 72 [I n, I lo, I hi] KTrue (.bool (inI n lo hi)) := by
  refine Cx_of Tryz.func72 rfl Tryz.ntmps72 rfl fun w0 M0 => ?_
  refine JC_seq ?_
  refine JC_region ?_
  refine JL_pd rfl (det_assign rfl) ?_
  refine JL_nil ?_
  refine JE_seq ?_
  refine JC_seq ?_
  refine JC_region ?_
  refine JL_pd rfl (det_move rfl) ?_
  refine JL_pd rfl (det_move rfl) ?_
  refine JL_pd rfl (det_geq rfl rfl) ?_
  refine JL_pd rfl (det_move rfl) ?_
  refine JL_split (d0 := 10) rfl (fun h1 => ?_) (fun h1 => ?_)
  · refine JL_guard rfl rfl h1 ?_
    refine JL_pd rfl (det_move rfl) ?_
    refine JL_guard rfl rfl h1 ?_
    refine JL_pd rfl (det_move rfl) ?_
    refine JL_guard rfl rfl h1 ?_
    refine JL_pd rfl (det_leq rfl rfl) ?_
    refine JL_pd rfl (det_pick_t rfl h1 rfl) ?_
    refine JL_pd rfl (det_assign rfl) ?_
    refine JL_nil ?_
    refine JE_seq ?_
    refine JC_ret ?_
    refine JE_out (.inl rfl) () (results1 Tryz.results72 (res_tmp rfl)) ?_ (List.Perm.refl _) (fun _ _ => trivial)
    (simp_all [inI])
    (try omega)
  · refine JL_skip rfl rfl h1 rfl ?_
    refine JL_skip rfl rfl h1 rfl ?_
    refine JL_skip rfl rfl h1 rfl ?_
    refine JL_pd rfl (det_pick_f rfl h1 rfl) ?_
    refine JL_pd rfl (det_assign rfl) ?_
    refine JL_nil ?_
    refine JE_seq ?_
    refine JC_ret ?_
    refine JE_out (.inl rfl) () (results1 Tryz.results72 (res_tmp rfl)) ?_ (List.Perm.refl _) (fun _ _ => trivial)
    (simp_all [inI])
    (try omega)
set_option maxRecDepth 100000 in
theorem IsHouse_j (x : Hx) : Cv Tryz.prog 71 [.agg #[I x.h.lanes, .slice x.a x.h.shoes.length x.c]] (KHx x) (.bool (hsOk x.h)) := by
  refine Cx_of Tryz.func71 rfl Tryz.ntmps71 rfl fun w0 M0 => ?_
  refine JC_seq ?_
  refine JC_region ?_
  refine JL_step rfl rfl rfl (jo_box rfl rfl) fun b1 => ?_
  refine JL_pd rfl (det_assign rfl) ?_
  refine JL_nil ?_
  refine JE_seq ?_
  refine JC_seq ?_
  refine JC_seq ?_
  refine JC_region ?_
  refine JL_pd rfl (det_assign rfl) ?_
  refine JL_nil ?_
  refine JE_seq ?_
  refine JC_block ?_
  -- stop: loop
  refine JC_pure (p := x.h.shoes.length ≤ 9223372036854775807) (by intro w h; exact h.1.bd) fun hz => ?_
  refine JC_loopF (γ := Nat) (fun i => i ≤ x.h.shoes.length ∧ (x.h.shoes.take i).all (fun n => inI n 0 20) = true) (fun i => [(3, I i)]) (fun _ => []) (fun i => x.h.shoes.length - i) 0 ⟨Nat.zero_le _, rfl⟩ (stsub_consI rfl rfl stsub_nil) ht_nil ?_
  rintro i ⟨hi, hal⟩ K hK
  dsimp only [List.cons_append, List.nil_append]
  refine JC_seq ?_
  refine JC_seq ?_
  refine JC_region ?_
  refine JL_pd rfl (det_move rfl) ?_
  refine JL_pd rfl (det_fieldAddr rfl fo_79_1) ?_
  refine JL_dt rfl (det_loadK rfl Tryz.isAgg31 rfl) ?_
  refine JL_pd rfl (det_len rfl Tryz.runUnderlying31) ?_
  refine JL_pd rfl (det_lss rfl rfl) ?_
  refine JL_nil ?_
  refine JE_seq ?_
  -- stop: cond
  refine JC_if rfl (fun h1 => ?_) (fun h1 => ?_)
  · have hi2 : i < x.h.shoes.length := by omega
    refine JC_skip ?_
    refine JE_seq ?_
    refine JC_seq ?_
    refine JC_block ?_
    refine JC_seq ?_
    refine JC_region ?_
    refine JL_pd rfl (det_fieldAddr rfl fo_79_1) ?_
    refine JL_dt rfl (det_loadK rfl Tryz.isAgg31 rfl) ?_
    refine JL_pd rfl (det_move rfl) ?_
    refine JL_dt rfl (det_indexAddr rfl rfl (by first | rfl | omega) (by first | assumption | omega | decide) Tryz.runUnderlying31 Tryz.sizeOf3) ?_
    refine JL_dt rfl (det_loadE rfl (by first | assumption | omega | decide) Tryz.isAgg3 rfl rfl) ?_
    refine JL_step rfl rfl rfl (jo_callv rfl rfl Tryz.call72 rfl (In_j _ _ _)) fun _ => ?_
    refine JL_pd rfl (det_not rfl) ?_
    refine JL_nil ?_
    refine JE_seq ?_
    -- stop: cond
    refine JC_cond rfl (fun h2 => ?_) (fun h2 => ?_)
    · refine JC_seq ?_
      refine JC_region ?_
      refine JL_pd rfl (det_assign rfl) ?_
      refine JL_nil ?_
      refine JE_seq ?_
      refine JC_ret ?_
      refine JE_block_ret ?_
      refine JE_seq_ret ?_
      refine JE_then_ret ?_
      refine JE_block_ret ?_
      refine JE_seq_ret ?_
      -- stop: out
      refine JE_out (.inl rfl) () (results1 Tryz.results71 (res_tmp rfl)) (by rw [eqHs, all_no (p := fun n => inI n 0 20) hi2 (by simpa using h2)]; simp) (List.Perm.refl _) (fun _ _ => trivial)
    · refine JC_skip ?_
      refine JE_block ?_
      refine JE_seq ?_
      refine JC_region ?_
      refine JL_pd rfl (det_move rfl) ?_
      refine JL_pd rfl (det_add rfl rfl ⟨by omega, by omega⟩) ?_
      refine JL_pd rfl (det_assign rfl) ?_
      refine JL_nil ?_
      -- stop: end
      refine JE_roundF hK (i + 1) ⟨by omega, all_snoc (p := fun n => inI n 0 20) hi2 hal (by simpa using h2)⟩ (by omega) (stsub_consI rfl (by omega) stsub_nil) ht_nil
  · obtain rfl : i = x.h.shoes.length := by omega
    rw [List.take_length] at hal
    refine JC_exit ?_
    refine JE_seq_exit ?_
    refine JE_then_exit ?_
    refine JE_block_here ?_
    refine JE_seq ?_
    refine JC_seq ?_
    refine JC_region ?_
    refine JL_pd rfl (det_fieldAddr rfl fo_79_0) ?_
    refine JL_dt rfl (det_loadK rfl Tryz.isAgg3 rfl) ?_
    refine JL_step rfl rfl rfl (jo_callv rfl rfl Tryz.call72 rfl (In_j _ _ _)) fun _ => ?_
    refine JL_pd rfl (det_move rfl) ?_
    -- stop: guard 3
    refine JL_join1 6 2 (.bool (inI x.h.lanes 0 5 && decide ((x.h.shoes.length : Int) = 10))) (fun hj => ?_) ?_
    · refine JL_split (d0 := 21) rfl (fun q2 => ?_) (fun q2 => ?_)
      · refine JL_guard rfl rfl q2 ?_
        refine JL_pd rfl (det_fieldAddr rfl fo_79_1) ?_
        refine JL_guard rfl rfl q2 ?_
        refine JL_dt rfl (det_loadK rfl Tryz.isAgg31 rfl) ?_
        refine JL_guard rfl rfl q2 ?_
        refine JL_pd rfl (det_len rfl Tryz.runUnderlying31) ?_
        refine JL_guard rfl rfl q2 ?_
        refine JL_pd rfl (det_eql rfl rfl) ?_
        refine JL_pd rfl (det_pick_t rfl q2 rfl) ?_
        refine JL_pd rfl (det_assign rfl) ?_
        exact hj (by kernel_rfl) (stsub_consB rfl (by clear hj; first | rfl | (simp only [q2, Bool.and_true, Bool.true_and, Bool.false_and, Bool.and_false, Bool.or_true, Bool.true_or, Bool.or_false, Bool.false_or, Bool.not_true, Bool.not_false]; done) | (simp [q2]; done) | (simp at q2; done) | (simp [q2] <;> omega) | (exfalso; simp at q2; omega)) stsub_nil)
      · refine JL_skip rfl rfl q2 rfl ?_
        refine JL_skip rfl rfl q2 rfl ?_
        refine JL_skip rfl rfl q2 rfl ?_
        refine JL_skip rfl rfl q2 rfl ?_
        refine JL_pd rfl (det_pick_f rfl q2 rfl) ?_
        refine JL_pd rfl (det_assign rfl) ?_
        exact hj (by kernel_rfl) (stsub_consB rfl (by clear hj; first | rfl | (simp only [q2, Bool.and_true, Bool.true_and, Bool.false_and, Bool.and_false, Bool.or_true, Bool.true_or, Bool.or_false, Bool.false_or, Bool.not_true, Bool.not_false]; done) | (simp [q2]; done) | (simp at q2; done) | (simp [q2] <;> omega) | (exfalso; simp at q2; omega)) stsub_nil)
    refine JL_nil ?_
    refine JE_seq ?_
    refine JC_ret ?_
    -- stop: out
    refine JE_out (.inl rfl) () (results1 Tryz.results71 (res_tmp rfl)) (by rw [eqHs, hal, Bool.and_true, show decide ((x.h.shoes.length : Int) = 10) = decide (x.h.shoes.length = 10) from decide_eq_decide.2 (by omega)]) (List.Perm.refl _) (fun _ _ => trivial)
set_option maxRecDepth 100000 in
theorem Sized_j (a : Option Addr) (cap : Nat) (l : List Int) : Cv Tryz.prog 73 [.slice a l.length cap] (KSl a l.length cap encI l) (.bool (l.all fun n => inI n 0 9)) := by
  refine Cx_of Tryz.func73 rfl Tryz.ntmps73 rfl fun w0 M0 => ?_
  refine JC_seq ?_
  refine JC_region ?_
  refine JL_pd rfl (det_assign rfl) ?_
  refine JL_nil ?_
  refine JE_seq ?_
  refine JC_seq ?_
  refine JC_seq ?_
  refine JC_region ?_
  refine JL_pd rfl (det_assign rfl) ?_
  refine JL_nil ?_
  refine JE_seq ?_
  refine JC_block ?_
  -- stop: loop
  refine JC_pure (p := l.length ≤ 9223372036854775807) (by intro w h; exact h.1.bd) fun hz => ?_
  refine JC_loopF (γ := Nat) (fun i => i ≤ l.length ∧ (l.take i).all (fun n => inI n 0 9) = true) (fun i => [(3, I i)]) (fun _ => []) (fun i => l.length - i) 0 ⟨Nat.zero_le _, rfl⟩ (stsub_consI rfl rfl stsub_nil) ht_nil ?_
  rintro i ⟨hi, hal⟩ K hK
  dsimp only [List.cons_append, List.nil_append]
  refine JC_seq ?_
  refine JC_seq ?_
  refine JC_region ?_
  refine JL_pd rfl (det_move rfl) ?_
  refine JL_pd rfl (det_move rfl) ?_
  refine JL_pd rfl (det_len rfl Tryz.runUnderlying31) ?_
  refine JL_pd rfl (det_lss rfl rfl) ?_
  refine JL_nil ?_
  refine JE_seq ?_
  -- stop: cond
  refine JC_if rfl (fun h1 => ?_) (fun h1 => ?_)
  · have hi2 : i < l.length := by omega
    refine JC_skip ?_
    refine JE_seq ?_
    refine JC_seq ?_
    refine JC_block ?_
    refine JC_seq ?_
    refine JC_region ?_
    refine JL_pd rfl (det_move rfl) ?_
    refine JL_pd rfl (det_move rfl) ?_
    refine JL_dt rfl (det_indexAddr rfl rfl (by first | rfl | omega) (by first | assumption | omega | decide) Tryz.runUnderlying31 Tryz.sizeOf3) ?_
    refine JL_dt rfl (det_loadE rfl (by first | assumption | omega | decide) Tryz.isAgg3 rfl rfl) ?_
    refine JL_step rfl rfl rfl (jo_callv rfl rfl Tryz.call72 rfl (In_j _ _ _)) fun _ => ?_
    refine JL_pd rfl (det_not rfl) ?_
    refine JL_nil ?_
    refine JE_seq ?_
    -- stop: cond
    refine JC_cond rfl (fun h2 => ?_) (fun h2 => ?_)
    · refine JC_seq ?_
      refine JC_region ?_
      refine JL_pd rfl (det_assign rfl) ?_
      refine JL_nil ?_
      refine JE_seq ?_
      refine JC_ret ?_
      refine JE_block_ret ?_
      refine JE_seq_ret ?_
      refine JE_then_ret ?_
      refine JE_block_ret ?_
      refine JE_seq_ret ?_
      -- stop: out
      refine JE_out (.inl rfl) () (results1 Tryz.results73 (res_tmp rfl)) (by rw [all_no (p := fun n => inI n 0 9) hi2 (by simpa using h2)]) (List.Perm.refl _) (fun _ _ => trivial)
    · refine JC_skip ?_
      refine JE_block ?_
      refine JE_seq ?_
      refine JC_region ?_
      refine JL_pd rfl (det_move rfl) ?_
      refine JL_pd rfl (det_add rfl rfl ⟨by omega, by omega⟩) ?_
      refine JL_pd rfl (det_assign rfl) ?_
      refine JL_nil ?_
      -- stop: end
      refine JE_roundF hK (i + 1) ⟨by omega, all_snoc (p := fun n => inI n 0 9) hi2 hal (by simpa using h2)⟩ (by omega) (stsub_consI rfl (by omega) stsub_nil) ht_nil
  · obtain rfl : i = l.length := by omega
    rw [List.take_length] at hal
    refine JC_exit ?_
    refine JE_seq_exit ?_
    refine JE_then_exit ?_
    refine JE_block_here ?_
    refine JE_seq ?_
    refine JC_seq ?_
    refine JC_region ?_
    refine JL_pd rfl (det_assign rfl) ?_
    refine JL_nil ?_
    refine JE_seq ?_
    refine JC_ret ?_
    -- stop: out
    refine JE_out (.inl rfl) () (results1 Tryz.results73 (res_tmp rfl)) (by rw [hal]) (List.Perm.refl _) (fun _ _ => trivial)
theorem eqGr (g : Gr) : grOk g = (inI g.fr 0 30 && (decide (g.fr ≤ g.lo) && (decide (g.lo ≤ g.hi) && (inI g.hi 0 30 && g.feet.all fun n => inI n 0 9)))) := rfl
theorem grOk_r (g : Gr) : (!inI g.fr 0 30 || !inI g.lo g.fr g.hi || decide (30 < g.hi) || !(g.feet.all fun n => inI n 0 9)) = !grOk g := by
  rw [eqGr]
  rw [Bool.eq_iff_iff]
  simp only [inI, Bool.or_eq_true, Bool.not_eq_true', decide_eq_false_iff_not, decide_eq_true_eq, Bool.and_eq_false_iff]
  cases (g.feet.all fun n => decide (0 ≤ n ∧ n ≤ 9))
  · simp
  · simp; omega
set_option maxRecDepth 100000 in
set_option maxHeartbeats 1000000 in
theorem Fault_j (x : Hx) (a : Option Addr) (c : Nat) (xs : List Gx) : Cv Tryz.prog 28 [.agg #[I x.h.lanes, .slice x.a x.h.shoes.length x.c], .slice a xs.length c] (KAnd (KHx x) (KGs a c xs)) (I (fault x.h (gs xs))) := by
  have e1 : (gs xs).all few = xs.all fun x => few x.g := by simp [gs]; rfl
  have e2 : (gs xs).all grOk = xs.all fun x => grOk x.g := by simp [gs]; rfl
  have e3 : (gs xs).length = xs.length := List.length_map _
  have e4 : fault x.h (gs xs) = if hsOk x.h = false then 1 else if 8 < xs.length ∨ (xs.all fun x => few x.g) = false then 3 else if (xs.all fun x => grOk x.g) = false then 1 else 0 := by unfold fault; rw [e1, e2, e3]
  refine Cx_of Tryz.func28 rfl Tryz.ntmps28 rfl fun w0 M0 => ?_
  refine JC_seq ?_
  refine JC_region ?_
  refine JL_step rfl rfl rfl (jo_box rfl rfl) fun b2 => ?_
  refine JL_pd rfl (det_assign rfl) ?_
  refine JL_nil ?_
  refine JE_seq ?_
  refine JC_seq ?_
  refine JC_seq ?_
  refine JC_region ?_
  refine JL_dt rfl (det_loadKA rfl Tryz.isAgg79 Tryz.sizeOf79 rfl rfl) ?_
  refine JL_step rfl rfl rfl (jo_callv rfl rfl Tryz.call71 rfl (IsHouse_j x)) fun _ => ?_
  refine JL_pd rfl (det_not rfl) ?_
  refine JL_nil ?_
  refine JE_seq ?_
  -- stop: cond
  refine JC_cond rfl (fun h1 => ?_) (fun h1 => ?_)
  · refine JC_seq ?_
    refine JC_region ?_
    refine JL_pd rfl (det_assign rfl) ?_
    refine JL_nil ?_
    refine JE_seq ?_
    refine JC_ret ?_
    refine JE_seq_ret ?_
    -- stop: out
    refine JE_out (.inl rfl) () (results1 Tryz.results28 (res_tmp rfl)) (by rw [e4, if_pos (by simpa using h1)]) (List.Perm.refl _) (fun _ _ => trivial)
  · have h1' : ¬ hsOk x.h = false := by simpa using h1
    refine JC_skip ?_
    refine JE_seq ?_
    refine JC_seq ?_
    refine JC_seq ?_
    refine JC_region ?_
    refine JL_pd rfl (det_move rfl) ?_
    refine JL_pd rfl (det_len rfl Tryz.runUnderlying80) ?_
    refine JL_pd rfl (det_gtr rfl rfl) ?_
    refine JL_nil ?_
    refine JE_seq ?_
    -- stop: cond
    refine JC_if rfl (fun h2 => ?_) (fun h2 => ?_)
    · refine JC_seq ?_
      refine JC_region ?_
      refine JL_pd rfl (det_assign rfl) ?_
      refine JL_nil ?_
      refine JE_seq ?_
      refine JC_ret ?_
      refine JE_seq_ret ?_
      -- stop: out
      refine JE_out (.inl rfl) () (results1 Tryz.results28 (res_tmp rfl)) (by rw [e4, if_neg h1', if_pos (.inl (by omega))]) (List.Perm.refl _) (fun _ _ => trivial)
    · have hn : xs.length ≤ 8 := by omega
      refine JC_skip ?_
      refine JE_seq ?_
      refine JC_seq ?_
      refine JC_seq ?_
      refine JC_region ?_
      refine JL_pd rfl (det_assign rfl) ?_
      refine JL_nil ?_
      refine JE_seq ?_
      refine JC_block ?_
      -- stop: loop
      refine JC_loopF (γ := Nat) (fun i => i ≤ xs.length ∧ (xs.take i).all (fun y => few y.g) = true) (fun i => [(5, I i)]) (fun _ => []) (fun i => xs.length - i) 0 ⟨Nat.zero_le _, rfl⟩ (stsub_consI rfl rfl stsub_nil) ht_nil ?_
      rintro i ⟨hi, hal⟩ K hK
      dsimp only [List.cons_append, List.nil_append]
      refine JC_seq ?_
      refine JC_seq ?_
      refine JC_region ?_
      refine JL_pd rfl (det_move rfl) ?_
      refine JL_pd rfl (det_move rfl) ?_
      refine JL_pd rfl (det_len rfl Tryz.runUnderlying80) ?_
      refine JL_pd rfl (det_lss rfl rfl) ?_
      refine JL_nil ?_
      refine JE_seq ?_
      -- stop: cond
      refine JC_if rfl (fun h3 => ?_) (fun h3 => ?_)
      · have hi2 : i < xs.length := by omega
        refine JC_skip ?_
        refine JE_seq ?_
        refine JC_seq ?_
        refine JC_block ?_
        refine JC_seq ?_
        refine JC_region ?_
        refine JL_pd rfl (det_move rfl) ?_
        refine JL_pd rfl (det_move rfl) ?_
        refine JL_dt rfl (det_indexAddr rfl rfl (by first | rfl | omega) (by first | assumption | omega | decide) Tryz.runUnderlying80 Tryz.sizeOf92) ?_
        refine JL_pd rfl (det_fieldAddrE rfl fo_92_2) ?_
        refine JL_dt rfl (det_loadEk rfl (by first | assumption | omega | decide) Tryz.isAgg31 rfl rfl) ?_
        refine JL_pd rfl (det_len rfl Tryz.runUnderlying31) ?_
        refine JL_pd rfl (det_gtr rfl rfl) ?_
        refine JL_nil ?_
        refine JE_seq ?_
        -- stop: cond
        refine JC_if rfl (fun h4 => ?_) (fun h4 => ?_)
        · refine JC_seq ?_
          refine JC_region ?_
          refine JL_pd rfl (det_assign rfl) ?_
          refine JL_nil ?_
          refine JE_seq ?_
          refine JC_ret ?_
          refine JE_block_ret ?_
          refine JE_seq_ret ?_
          refine JE_then_ret ?_
          refine JE_block_ret ?_
          refine JE_seq_ret ?_
          -- stop: out
          refine JE_out (.inl rfl) () (results1 Tryz.results28 (res_tmp rfl)) (by rw [e4, if_neg h1', if_pos (.inr (all_no (p := fun y : Gx => few y.g) hi2 (decide_eq_false (by omega))))]) (List.Perm.refl _) (fun _ _ => trivial)
        · refine JC_skip ?_
          refine JE_block ?_
          refine JE_seq ?_
          refine JC_region ?_
          refine JL_pd rfl (det_move rfl) ?_
          refine JL_pd rfl (det_add rfl rfl ⟨by omega, by omega⟩) ?_
          refine JL_pd rfl (det_assign rfl) ?_
          refine JL_nil ?_
          -- stop: end
          refine JE_roundF hK (i + 1) ⟨by omega, all_snoc (p := fun y : Gx => few y.g) hi2 hal (decide_eq_true (by omega))⟩ (by omega) (stsub_consI rfl (by omega) stsub_nil) ht_nil
      · obtain rfl : i = xs.length := by omega
        rw [List.take_length] at hal
        have h5 : ¬ (8 < xs.length ∨ (xs.all fun y => few y.g) = false) := by rw [hal]; simp; omega
        refine JC_exit ?_
        refine JE_seq_exit ?_
        refine JE_then_exit ?_
        refine JE_block_here ?_
        refine JE_seq ?_
        refine JC_seq ?_
        refine JC_seq ?_
        refine JC_region ?_
        refine JL_pd rfl (det_assign rfl) ?_
        refine JL_nil ?_
        refine JE_seq ?_
        refine JC_block ?_
        -- stop: loop
        refine JC_loopF (γ := Nat) (fun i => i ≤ xs.length ∧ (xs.take i).all (fun y => grOk y.g) = true) (fun i => [(6, I i)]) (fun _ => []) (fun i => xs.length - i) 0 ⟨Nat.zero_le _, rfl⟩ (stsub_consI rfl rfl stsub_nil) ht_nil ?_
        rintro i ⟨hi, hgr⟩ K' hK'
        dsimp only [List.cons_append, List.nil_append]
        refine JC_seq ?_
        refine JC_seq ?_
        refine JC_region ?_
        refine JL_pd rfl (det_move rfl) ?_
        refine JL_pd rfl (det_move rfl) ?_
        refine JL_pd rfl (det_len rfl Tryz.runUnderlying80) ?_
        refine JL_pd rfl (det_lss rfl rfl) ?_
        refine JL_nil ?_
        refine JE_seq ?_
        -- stop: cond
        refine JC_if rfl (fun h6 => ?_) (fun h6 => ?_)
        · have hi2 : i < xs.length := by omega
          have hgk := grOk_r xs[i].g
          refine JC_know (R' := KAnd (KSl xs[i].a xs[i].g.feet.length xs[i].c encI xs[i].g.feet) _) (fun w h => ⟨(Knows.know (F := KFt xs) w h) _ (List.getElem_mem hi2), h⟩) ?_
          refine JC_skip ?_
          refine JE_seq ?_
          refine JC_seq ?_
          refine JC_block ?_
          refine JC_seq ?_
          refine JC_region ?_
          refine JL_pd rfl (det_move rfl) ?_
          refine JL_pd rfl (det_move rfl) ?_
          refine JL_dt rfl (det_indexAddr rfl rfl (by first | rfl | omega) (by first | assumption | omega | decide) Tryz.runUnderlying80 Tryz.sizeOf92) ?_
          refine JL_dt rfl (det_loadEA rfl (by first | assumption | omega | decide) Tryz.isAgg92 Tryz.sizeOf92 rfl rfl rfl) ?_
          refine JL_step rfl rfl rfl (jo_alloc0 Tryz.zeroValue92 rfl) fun b7 => ?_
          refine JL_step0 rfl rfl (jo_store rfl rfl rfl (by first | (simp only [splice_norm]; done) | (simp only [splice_norm]; rfl) | rfl) Tryz.sizeOf92 rfl rfl) fun _ => ?_
          refine JL_nil ?_
          refine JE_seq ?_
          refine JC_seq ?_
          refine JC_region ?_
          refine JL_pd rfl (det_fieldAddr rfl fo_92_0) ?_
          refine JL_dt rfl (det_loadK rfl Tryz.isAgg3 rfl) ?_
          refine JL_step rfl rfl rfl (jo_callv rfl rfl Tryz.call72 rfl (In_j _ _ _)) fun _ => ?_
          refine JL_pd rfl (det_not rfl) ?_
          refine JL_pd rfl (det_move rfl) ?_
          -- stop: guard 4
          refine JL_join1 23 64 (.bool (!inI xs[i].g.fr 0 30 || !inI xs[i].g.lo xs[i].g.fr xs[i].g.hi || decide (30 < xs[i].g.hi) || !(xs[i].g.feet.all fun n => inI n 0 9))) (fun hj => ?_) ?_
          · refine JL_split (d0 := 41) rfl (fun q3 => ?_) (fun q3 => ?_)
            · refine JL_skip rfl rfl q3 rfl ?_
              refine JL_skip rfl rfl q3 rfl ?_
              refine JL_skip rfl rfl q3 rfl ?_
              refine JL_skip rfl rfl q3 rfl ?_
              refine JL_skip rfl rfl q3 rfl ?_
              refine JL_skip rfl rfl q3 rfl ?_
              refine JL_skip rfl rfl q3 rfl ?_
              refine JL_skip rfl rfl q3 rfl ?_
              refine JL_skip rfl rfl q3 rfl ?_
              refine JL_skip rfl rfl q3 rfl ?_
              refine JL_pd rfl (det_pick_t rfl q3 rfl) ?_
              refine JL_pd rfl (det_move rfl) ?_
              refine JL_skip rfl rfl rfl rfl ?_
              refine JL_skip rfl rfl rfl rfl ?_
              refine JL_skip rfl rfl rfl rfl ?_
              refine JL_skip rfl rfl rfl rfl ?_
              refine JL_pd rfl (det_pick_t rfl rfl rfl) ?_
              refine JL_pd rfl (det_move rfl) ?_
              refine JL_skip rfl rfl rfl rfl ?_
              refine JL_skip rfl rfl rfl rfl ?_
              refine JL_skip rfl rfl rfl rfl ?_
              refine JL_skip rfl rfl rfl rfl ?_
              refine JL_pd rfl (det_pick_t rfl rfl rfl) ?_
              exact hj (by kernel_rfl) (stsub_consB rfl (by clear hj; first | rfl | (simp only [q3, Bool.and_true, Bool.true_and, Bool.false_and, Bool.and_false, Bool.or_true, Bool.true_or, Bool.or_false, Bool.false_or, Bool.not_true, Bool.not_false]; done) | (simp [q3]; done) | (simp at q3; done) | (simp [q3] <;> omega) | (exfalso; simp at q3; omega)) stsub_nil)
            · refine JL_guard rfl rfl q3 ?_
              refine JL_pd rfl (det_fieldAddr rfl fo_92_1) ?_
              refine JL_guard rfl rfl q3 ?_
              refine JL_pd rfl (det_fieldAddr rfl fo_90_0) ?_
              refine JL_guard rfl rfl q3 ?_
              refine JL_dt rfl (det_loadK rfl Tryz.isAgg3 rfl) ?_
              refine JL_guard rfl rfl q3 ?_
              refine JL_pd rfl (det_fieldAddr rfl fo_92_0) ?_
              refine JL_guard rfl rfl q3 ?_
              refine JL_dt rfl (det_loadK rfl Tryz.isAgg3 rfl) ?_
              refine JL_guard rfl rfl q3 ?_
              refine JL_pd rfl (det_fieldAddr rfl fo_92_1) ?_
              refine JL_guard rfl rfl q3 ?_
              refine JL_pd rfl (det_fieldAddr rfl fo_90_1) ?_
              refine JL_guard rfl rfl q3 ?_
              refine JL_dt rfl (det_loadK rfl Tryz.isAgg3 rfl) ?_
              refine JL_guard rfl rfl q3 ?_
              refine JL_step rfl rfl rfl (jo_callv rfl rfl Tryz.call72 rfl (In_j _ _ _)) fun _ => ?_
              refine JL_guard rfl rfl q3 ?_
              refine JL_pd rfl (det_not rfl) ?_
              refine JL_pd rfl (det_pick_f rfl q3 rfl) ?_
              refine JL_pd rfl (det_move rfl) ?_
              refine JL_split (d0 := 53) rfl (fun q4 => ?_) (fun q4 => ?_)
              · refine JL_skip rfl rfl q4 rfl ?_
                refine JL_skip rfl rfl q4 rfl ?_
                refine JL_skip rfl rfl q4 rfl ?_
                refine JL_skip rfl rfl q4 rfl ?_
                refine JL_pd rfl (det_pick_t rfl q4 rfl) ?_
                refine JL_pd rfl (det_move rfl) ?_
                refine JL_skip rfl rfl rfl rfl ?_
                refine JL_skip rfl rfl rfl rfl ?_
                refine JL_skip rfl rfl rfl rfl ?_
                refine JL_skip rfl rfl rfl rfl ?_
                refine JL_pd rfl (det_pick_t rfl rfl rfl) ?_
                exact hj (by kernel_rfl) (stsub_consB rfl (by clear hj; first | rfl | (simp only [q3, q4, Bool.and_true, Bool.true_and, Bool.false_and, Bool.and_false, Bool.or_true, Bool.true_or, Bool.or_false, Bool.false_or, Bool.not_true, Bool.not_false]; done) | (simp [q3, q4]; done) | (simp at q3; done) | (simp at q4; done) | (simp [q3, q4] <;> omega) | (exfalso; simp at q3 q4; omega) | (simp [q4] at q3; done) | (simp [q3] at q4; done)) stsub_nil)
              · refine JL_guard rfl rfl q4 ?_
                refine JL_pd rfl (det_fieldAddr rfl fo_92_1) ?_
                refine JL_guard rfl rfl q4 ?_
                refine JL_pd rfl (det_fieldAddr rfl fo_90_1) ?_
                refine JL_guard rfl rfl q4 ?_
                refine JL_dt rfl (det_loadK rfl Tryz.isAgg3 rfl) ?_
                refine JL_guard rfl rfl q4 ?_
                refine JL_pd rfl (det_gtr rfl rfl) ?_
                refine JL_pd rfl (det_pick_f rfl q4 rfl) ?_
                refine JL_pd rfl (det_move rfl) ?_
                refine JL_split (d0 := 59) rfl (fun q5 => ?_) (fun q5 => ?_)
                · refine JL_skip rfl rfl q5 rfl ?_
                  refine JL_skip rfl rfl q5 rfl ?_
                  refine JL_skip rfl rfl q5 rfl ?_
                  refine JL_skip rfl rfl q5 rfl ?_
                  refine JL_pd rfl (det_pick_t rfl q5 rfl) ?_
                  exact hj (by kernel_rfl) (stsub_consB rfl (by clear hj; first | rfl | (simp only [q3, q4, q5, Bool.and_true, Bool.true_and, Bool.false_and, Bool.and_false, Bool.or_true, Bool.true_or, Bool.or_false, Bool.false_or, Bool.not_true, Bool.not_false]; done) | (simp [q3, q4, q5]; done) | (simp at q3; done) | (simp at q4; done) | (simp at q5; done) | (simp [q3, q4, q5] <;> omega) | (exfalso; simp at q3 q4 q5; omega) | (simp [q4, q5] at q3; done) | (simp [q3, q5] at q4; done) | (simp [q3, q4] at q5; done)) stsub_nil)
                · refine JL_guard rfl rfl q5 ?_
                  refine JL_pd rfl (det_fieldAddr rfl fo_92_2) ?_
                  refine JL_guard rfl rfl q5 ?_
                  refine JL_dt rfl (det_loadK rfl Tryz.isAgg31 rfl) ?_
                  refine JL_guard rfl rfl q5 ?_
                  refine JL_step rfl rfl rfl (jo_callv rfl rfl Tryz.call73 rfl (Sized_j xs[i].a xs[i].c xs[i].g.feet)) fun _ => ?_
                  refine JL_guard rfl rfl q5 ?_
                  refine JL_pd rfl (det_not rfl) ?_
                  refine JL_pd rfl (det_pick_f rfl q5 rfl) ?_
                  exact hj (by kernel_rfl) (stsub_consB rfl (by clear hj; first | rfl | (simp only [q3, q4, q5, Bool.and_true, Bool.true_and, Bool.false_and, Bool.and_false, Bool.or_true, Bool.true_or, Bool.or_false, Bool.false_or, Bool.not_true, Bool.not_false]; done) | (simp [q3, q4, q5]; done) | (simp at q3; done) | (simp at q4; done) | (simp at q5; done) | (simp [q3, q4, q5] <;> omega) | (exfalso; simp at q3 q4 q5; omega) | (simp [q4, q5] at q3; done) | (simp [q3, q5] at q4; done) | (simp [q3, q4] at q5; done)) stsub_nil)
          refine JL_nil ?_
          refine JE_seq ?_
          -- stop: cond
          rw [hgk]
          refine JC_cond rfl (fun h7 => ?_) (fun h7 => ?_)
          · refine JC_seq ?_
            refine JC_region ?_
            refine JL_pd rfl (det_assign rfl) ?_
            refine JL_nil ?_
            refine JE_seq ?_
            refine JC_ret ?_
            refine JE_block_ret ?_
            refine JE_seq_ret ?_
            refine JE_then_ret ?_
            refine JE_block_ret ?_
            refine JE_seq_ret ?_
            -- stop: out
            refine JE_out (.inl rfl) () (results1 Tryz.results28 (res_tmp rfl)) (by rw [e4, if_neg h1', if_neg h5, if_pos (all_no (p := fun y : Gx => grOk y.g) hi2 (by simpa using h7))]) (List.Perm.refl _) (fun _ _ => trivial)
          · refine JC_skip ?_
            refine JE_block ?_
            refine JE_seq ?_
            refine JC_region ?_
            refine JL_pd rfl (det_move rfl) ?_
            refine JL_pd rfl (det_add rfl rfl ⟨by omega, by omega⟩) ?_
            refine JL_pd rfl (det_assign rfl) ?_
            refine JL_nil ?_
            -- stop: end
            refine JE_roundF hK' (i + 1) ⟨by omega, all_snoc (p := fun y : Gx => grOk y.g) hi2 hgr (by simpa using h7)⟩ (by omega) (stsub_consI rfl (by omega) stsub_nil) ht_nil
        · obtain rfl : i = xs.length := by omega
          rw [List.take_length] at hgr
          refine JC_exit ?_
          refine JE_seq_exit ?_
          refine JE_then_exit ?_
          refine JE_block_here ?_
          refine JE_seq ?_
          refine JC_seq ?_
          refine JC_region ?_
          refine JL_pd rfl (det_assign rfl) ?_
          refine JL_nil ?_
          refine JE_seq ?_
          refine JC_ret ?_
          -- stop: out
          refine JE_out (.inl rfl) () (results1 Tryz.results28 (res_tmp rfl)) (by rw [e4, if_neg h1', if_neg h5, if_neg (by rw [hgr]; decide)]) (List.Perm.refl _) (fun _ _ => trivial)
end Go.Proofs.YthpkgabckklojaaGreat.En

/- Walks of the reference of lend: plans. -/
namespace Go.Proofs.YthpkgabckklojaaGreat.En
open Go.RowKit Go.Shelf

/-- Two groups have a lane at an hour. -/
def meetP (zs : List (Gr × Int)) (t : Int) (i k : Nat) : Prop := ∃ (hi : i < zs.length) (hk : k < zs.length), 0 ≤ zs[i].2 ∧ zs[i].2 = zs[k].2 ∧ stays zs[i].1 t = true ∧ stays zs[k].1 t = true
theorem right_iff {zs : List (Gr × Int)} (hV : ∀ z ∈ zs, VGr z.1) : RightZ zs ↔ ∀ t : Nat, t ≤ 30 → ∀ i, i < zs.length → ∀ k, k < i → ¬ meetP zs t i k := by
  constructor
  · rintro h t _ i hi k hk ⟨_, hkl, q1, q2, q3, q4⟩
    have hp := List.pairwise_iff_getElem.1 h k i hkl hi hk
    have s3 := inI_iff.1 q3
    have s4 := inI_iff.1 q4
    exact hp ⟨by omega, q2.symm, by unfold ovl; omega⟩
  · intro h
    refine List.pairwise_iff_getElem.2 fun k i hk hi hki => ?_
    rintro ⟨q1, q2, q3⟩
    have vk := hV _ (List.getElem_mem hk)
    have vi := hV _ (List.getElem_mem hi)
    have := vk.f0; have := vk.fl; have := vk.lh; have := vk.h1
    have := vi.f0; have := vi.fl; have := vi.lh; have := vi.h1
    obtain ⟨t, t1, t2⟩ := (meets (a := zs[k].1) (b := zs[i].1) (by omega) (by omega)).2 q3
    have s1 := inI_iff.1 t1
    have s2 := inI_iff.1 t2
    refine h t.toNat (by omega) i hi k hki ⟨hi, hk, by omega, q2.symm, ?_, ?_⟩ <;> rw [show ((t.toNat : Nat) : Int) = t by omega] <;> assumption
set_option maxRecDepth 100000 in
theorem Served_j (a : Option Addr) (cap : Nat) (plan : List Int) (hl : plan.length ≤ 1000) : Cv Tryz.prog 35 [.slice a plan.length cap] (KSl a plan.length cap encI plan) (I ((served plan : Nat) : Int)) := by
  refine Cx_of Tryz.func35 rfl Tryz.ntmps35 rfl fun w0 M0 => ?_
  refine JC_seq ?_
  refine JC_region ?_
  refine JL_pd rfl (det_assign rfl) ?_
  refine JL_nil ?_
  refine JE_seq ?_
  refine JC_seq ?_
  refine JC_region ?_
  refine JL_pd rfl (det_assign rfl) ?_
  refine JL_nil ?_
  refine JE_seq ?_
  refine JC_seq ?_
  refine JC_seq ?_
  refine JC_region ?_
  refine JL_pd rfl (det_assign rfl) ?_
  refine JL_nil ?_
  refine JE_seq ?_
  refine JC_block ?_
  -- stop: loop
  refine JC_loopF (γ := Nat) (fun i => i ≤ plan.length) (fun i => [(4, I i), (3, I ((served (plan.take i) : Nat) : Int))]) (fun _ => []) (fun i => plan.length - i) 0 (Nat.zero_le _) (stsub_consI rfl rfl (stsub_consI rfl rfl stsub_nil)) ht_nil ?_
  intro i hi K hK
  dsimp only [List.cons_append, List.nil_append]
  have hcl : served (plan.take i) ≤ plan.length := Nat.le_trans List.countP_le_length (by rw [List.length_take]; omega)
  refine JC_seq ?_
  refine JC_seq ?_
  refine JC_region ?_
  refine JL_pd rfl (det_move rfl) ?_
  refine JL_pd rfl (det_move rfl) ?_
  refine JL_pd rfl (det_len rfl Tryz.runUnderlying31) ?_
  refine JL_pd rfl (det_lss rfl rfl) ?_
  refine JL_nil ?_
  refine JE_seq ?_
  -- stop: cond
  refine JC_if rfl (fun h1 => ?_) (fun h1 => ?_)
  · have hi2 : i < plan.length := by omega
    have hs := countP_snoc (fun n : Int => decide (0 ≤ n)) plan i hi2
    refine JC_skip ?_
    refine JE_seq ?_
    refine JC_seq ?_
    refine JC_block ?_
    refine JC_seq ?_
    refine JC_region ?_
    refine JL_pd rfl (det_move rfl) ?_
    refine JL_pd rfl (det_move rfl) ?_
    refine JL_dt rfl (det_indexAddr rfl rfl (by first | rfl | omega) (by first | assumption | omega | decide) Tryz.runUnderlying31 Tryz.sizeOf3) ?_
    refine JL_dt rfl (det_loadE rfl (by first | assumption | omega | decide) Tryz.isAgg3 rfl rfl) ?_
    refine JL_pd rfl (det_geq rfl rfl) ?_
    refine JL_nil ?_
    refine JE_seq ?_
    -- stop: cond
    refine JC_if rfl (fun h2 => ?_) (fun h2 => ?_)
    · refine JC_region ?_
      refine JL_pd rfl (det_move rfl) ?_
      refine JL_pd rfl (det_add rfl rfl ⟨by omega, by omega⟩) ?_
      refine JL_pd rfl (det_assign rfl) ?_
      refine JL_nil ?_
      refine JE_block ?_
      refine JE_seq ?_
      refine JC_region ?_
      refine JL_pd rfl (det_move rfl) ?_
      refine JL_pd rfl (det_add rfl rfl ⟨by omega, by omega⟩) ?_
      refine JL_pd rfl (det_assign rfl) ?_
      refine JL_nil ?_
      -- stop: end
      rw [if_pos (decide_eq_true h2)] at hs
      refine JE_roundF hK (i + 1) (by omega) (by omega) (stsub_consI rfl (by omega) (stsub_consI rfl (by unfold served; omega) stsub_nil)) ht_nil
    · refine JC_skip ?_
      refine JE_block ?_
      refine JE_seq ?_
      refine JC_region ?_
      refine JL_pd rfl (det_move rfl) ?_
      refine JL_pd rfl (det_add rfl rfl ⟨by omega, by omega⟩) ?_
      refine JL_pd rfl (det_assign rfl) ?_
      refine JL_nil ?_
      -- stop: end
      rw [if_neg (by rw [decide_eq_false h2]; decide)] at hs
      refine JE_roundF hK (i + 1) (by omega) (by omega) (stsub_consI rfl (by omega) (stsub_consI rfl (by unfold served; omega) stsub_nil)) ht_nil
  · refine JC_exit ?_
    refine JE_seq_exit ?_
    refine JE_then_exit ?_
    refine JE_block_here ?_
    refine JE_seq ?_
    refine JC_seq ?_
    refine JC_region ?_
    refine JL_pd rfl (det_move rfl) ?_
    refine JL_pd rfl (det_assign rfl) ?_
    refine JL_nil ?_
    refine JE_seq ?_
    refine JC_ret ?_
    -- stop: out
    obtain rfl : i = plan.length := by omega
    refine JE_out (.inl rfl) () (results1 Tryz.results35 (res_tmp rfl)) (by rw [List.take_length]) (List.Perm.refl _) (fun _ _ => trivial)
end Go.Proofs.YthpkgabckklojaaGreat.En

/- The statements about lend: the document's first examples. -/
namespace Go.Proofs.YthpkgabckklojaaGreat.En
open Go.RowKit Go.Shelf

def alH : Hs := ⟨2, [0, 0, 0, 0, 1, 2, 0, 0, 0, 0]⟩
def paL : List Gr := [⟨1, 2, 3, [4, 5]⟩, ⟨2, 4, 4, [5]⟩, ⟨3, 3, 6, [4]⟩, ⟨5, 5, 5, []⟩]
abbrev alX (b : Nat) : Hx := ⟨alH, some ⟨b, 0, none⟩, 10⟩
abbrev paX (q : Nat × Nat × Nat × Nat) : List Gx := [⟨⟨1, 2, 3, [4, 5]⟩, some ⟨q.1, 0, none⟩, 2⟩, ⟨⟨2, 4, 4, [5]⟩, some ⟨q.2.1, 0, none⟩, 1⟩, ⟨⟨3, 3, 6, [4]⟩, some ⟨q.2.2.1, 0, none⟩, 1⟩, ⟨⟨5, 5, 5, []⟩, none, 0⟩]
theorem pa_gs (q : Nat × Nat × Nat × Nat) : gs (paX q) = paL := rfl
theorem al_f : fault alH paL = 0 := by decide +kernel
theorem pa_ft {q : Nat × Nat × Nat × Nat} {w : World} (h1 : KSl (some ⟨q.1, 0, none⟩) 2 2 encI [4, 5] w) (h2 : KSl (some ⟨q.2.1, 0, none⟩) 1 1 encI [5] w) (h3 : KSl (some ⟨q.2.2.1, 0, none⟩) 1 1 encI [4] w) : KFt (paX q) w := by
  intro x hx
  simp only [paX, List.mem_cons, List.not_mem_nil, or_false] at hx
  rcases hx with rfl | rfl | rfl | rfl
  · exact h1
  · exact h2
  · exact h3
  · exact KSl_none w
theorem al_most {p : List Int} (h : ServeOk 2 paL p) : plannedE alH paL p = 0 ∧ 3 ≤ served p ∧ p.length = 4 ∧ ∀ n ∈ p, -1 ≤ n := by
  have V := vld_of al_f
  have hf := serve_facts V.gr h
  have h1 : isPlan alH.lanes paL p = true := by
    unfold isPlan
    rw [Bool.and_eq_true, decide_eq_true_eq, List.all_eq_true]
    refine ⟨fun n hn => inI_iff.2 ?_, hf.n⟩
    have := hf.lane n hn
    show -1 ≤ n ∧ n ≤ 2 - 1
    omega
  have h2 : rightB paL p = true := decide_eq_true hf.right
  refine ⟨by unfold plannedE; rw [if_neg (by rw [al_f]; decide), if_neg (by rw [h1]; decide), if_neg (by rw [h2]; decide)], ?_, hf.n, fun n hn => (hf.lane n hn).1⟩
  have := serve_most hf (q := [0, 1, -1, 0]) rfl (by decide) (by decide +kernel)
  exact this
theorem al_b : boundE (alX 0) paL [3] = .tuple #[I 3, I 0] := by
  unfold boundE
  rw [if_pos (by decide +kernel), show boundL (alX 0).h.lanes.toNat paL [3] = 3 by decide +kernel]; rfl
theorem al_l : laterE (alX 0) paL [0, 1, -1, 0] 2 = (1, 5, 0) := by decide +kernel
theorem al_k : lackE (alX 0) [4, 4, 5, 5] [4, 5] = .tuple #[I 1, I 0] := by
  unfold lackE
  rw [if_neg (by decide +kernel), if_pos (by decide +kernel), show lack (alX 0).h.shoes [4, 4, 5, 5] [4, 5] = 1 by decide +kernel]
end Go.Proofs.YthpkgabckklojaaGreat.En

/- The statements about lend: the program's functions of copies; LendServes. -/
namespace Go.Proofs.YthpkgabckklojaaGreat.En
open Go.RowKit Go.Shelf

abbrev QH := Option Addr × Nat
abbrev QG (xs : List Gx) := Option Addr × Nat × { ys : List Gx // gs ys = gs xs }
theorem qg_len {xs : List Gx} (g : QG xs) : g.2.2.1.length = xs.length := by
  have := congrArg List.length g.2.2.2
  simpa [gs] using this
theorem CheckGroups_c (x : Hx) (q : QH) (xs : List Gx) (g : QG xs) : Cv Tryz.prog 122 [.agg #[I x.h.lanes, .slice q.1 x.h.shoes.length q.2], .slice g.1 g.2.2.1.length g.2.1] (KAnd (KHx ⟨x.h, q.1, q.2⟩) (KGs g.1 g.2.1 g.2.2.1)) (I (fault x.h (gs xs))) := by
  have h := CheckGroups_j ⟨x.h, q.1, q.2⟩ g.1 g.2.1 g.2.2.1
  rwa [g.2.2.2] at h
theorem Serve_ce (x : Hx) (q : QH) (xs : List Gx) (g : QG xs) (h : fault x.h (gs xs) ≠ 0) : Cv Tryz.prog 31 [.agg #[I x.h.lanes, .slice q.1 x.h.shoes.length q.2], .slice g.1 g.2.2.1.length g.2.1] (KAnd (KHx ⟨x.h, q.1, q.2⟩) (KGs g.1 g.2.1 g.2.2.1)) (.tuple #[.slice none 0 0, I (fault x.h (gs xs))]) := by
  have h := Serve_je ⟨x.h, q.1, q.2⟩ g.1 g.2.1 g.2.2.1 (by rw [g.2.2.2]; exact h)
  rwa [g.2.2.2] at h
abbrev QS (k : Nat) (l : List Gr) := Nat × { p : List Int // ServeOk k l p }
theorem Serve_c (x : Hx) (q : QH) (xs : List Gx) (g : QG xs) (h : fault x.h (gs xs) = 0) : Cr Tryz.prog 31 [.agg #[I x.h.lanes, .slice q.1 x.h.shoes.length q.2], .slice g.1 g.2.2.1.length g.2.1] (KAnd (KHx ⟨x.h, q.1, q.2⟩) (KGs g.1 g.2.1 g.2.2.1)) (fun p : QS x.h.lanes.toNat (gs xs) => .tuple #[.slice (some ⟨p.1, 0, none⟩) p.2.1.length p.2.1.length, I 0]) (fun p => KSl (some ⟨p.1, 0, none⟩) p.2.1.length p.2.1.length encI p.2.1) := by
  have h := Serve_jo ⟨x.h, q.1, q.2⟩ g.1 g.2.1 g.2.2.1 (by rw [g.2.2.2]; exact h)
  rw [g.2.2.2] at h
  have hl : ∀ p : QS x.h.lanes.toNat (gs xs), p.2.1.length = g.2.2.1.length := fun p => by rw [qg_len, p.2.2.1]; exact List.length_map _
  exact h.conv (fun p => by rw [hl]) fun p w hw => by rw [hl]; exact hw
theorem IsPlan_ok {x : Hx} {xs : List Gx} {p : List Int} (h : ServeFacts x.h.lanes.toNat (gs xs) p) (hl : 0 ≤ x.h.lanes) : (p.all (fun m => inI m (-1) (x.h.lanes - 1)) && decide (p.length = xs.length)) = true := by
  rw [Bool.and_eq_true, decide_eq_true_eq, List.all_eq_true]
  refine ⟨fun n hn => inI_iff.2 ?_, by rw [h.n]; exact List.length_map _⟩
  have := h.lane n hn
  omega
end Go.Proofs.YthpkgabckklojaaGreat.En

/- The statements about lend: LendOnce. -/
namespace Go.Proofs.YthpkgabckklojaaGreat.En
open Go.RowKit Go.Shelf

def encU (n : Int) : List Value := [.int .u16 n]
instance : Rec encU 1 := ⟨fun _ => rfl, by decide⟩
def wordsOk (ws : List Int) : Prop := ∀ x ∈ ws, 0 ≤ x ∧ x ≤ 65535
def wordV (ws : List Int) (at_ : Nat) : Int := if ws.length = 0 then 0 else ws.getD (at_ % ws.length) 0
theorem word_bd {ws : List Int} (h : wordsOk ws) (n : Nat) : 0 ≤ wordV ws n ∧ wordV ws n ≤ 65535 := by
  unfold wordV
  split
  · omega
  · rename_i hne
    have hlt := Nat.mod_lt n (Nat.pos_of_ne_zero hne)
    rw [List.getD_eq_getElem?_getD, List.getElem?_eq_getElem hlt]
    exact h _ (List.getElem_mem hlt)
def readyB (h : Hs) (l : List Gr) : Bool := thinB h l && decide (fault h l = 0)
/-- Plans, with where they lie. -/
structure SL where
  a : Option Addr
  c : Nat
  l : List Int
def encSL (s : SL) : List Value := [.slice s.a s.l.length s.c]
instance : Rec encSL 1 := ⟨fun _ => rfl, by decide⟩
def KSLs (ps : List SL) : World → Prop := fun w => ∀ s ∈ ps, KSl s.a s.l.length s.c encI s.l w
theorem getD_snoc_lt {l : List Int} {v : Int} {m : Nat} (h : m < l.length) : (l ++ [v]).getD m 0 = l.getD m 0 := by
  rw [List.getD_eq_getElem?_getD, List.getD_eq_getElem?_getD, List.getElem?_append_left h]
theorem getD_snoc_eq {l : List Int} {v : Int} {m : Nat} (h : l.length = m) : (l ++ [v]).getD m 0 = v := by
  subst h
  rw [List.getD_eq_getElem?_getD, List.getElem?_append_right (Nat.le_refl _), Nat.sub_self]; rfl
theorem getD_get {l : List Int} {m : Nat} (h : m < l.length) : l.getD m 0 = l[m] := by
  rw [List.getD_eq_getElem?_getD, List.getElem?_eq_getElem h]; rfl
structure GoodP (k : Int) (l : List Gr) (p : List Int) : Prop where
  n : p.length = l.length
  lane : ∀ n ∈ p, -1 ≤ n ∧ n < k
  right : RightZ (l.zip p)
theorem goodP_of {x : Hx} {l : List Gr} {p : List Int} (h : plannedE x.h l p = 0) : GoodP x.h.lanes l p := by
  unfold plannedE at h
  split at h
  · rename_i h1; exact absurd h h1
  · split at h
    · omega
    · split at h
      · omega
      · rename_i h1 h2 h3
        have h2 : isPlan x.h.lanes l p = true := by simpa using h2
        have h3 : rightB l p = true := by simpa using h3
        unfold isPlan at h2
        rw [Bool.and_eq_true, decide_eq_true_eq, List.all_eq_true] at h2
        exact ⟨h2.2, fun n hn => by have := inI_iff.1 (h2.1 n hn); omega, of_decide_eq_true h3⟩
theorem ready_of {h : Hs} {l : List Gr} (q : readyB h l = true) : (h.shoes.length ≤ 14 ∧ l.length ≤ 12 ∧ ∀ g ∈ l, g.feet.length ≤ 10) ∧ fault h l = 0 := by
  unfold readyB at q
  rw [Bool.and_eq_true, decide_eq_true_eq] at q
  exact ⟨thin_lens q.1, q.2⟩
end Go.Proofs.YthpkgabckklojaaGreat.En

/- The statements about lend: LendBounds, LendProof. -/
namespace Go.Proofs.YthpkgabckklojaaGreat.En
open Go.RowKit Go.Shelf

theorem perm_zip {α : Type} {L l : List α} (h : L.Perm l) : ∀ vs : List Int, vs.length = L.length → ∃ p : List Int, p.length = l.length ∧ (l.zip p).Perm (L.zip vs) := by
  induction h with
  | nil => intro vs hv; exact ⟨[], rfl, by simp⟩
  | cons a h ih =>
    intro vs hv
    cases vs with
    | nil => simp at hv
    | cons v vs =>
      obtain ⟨p, p1, p2⟩ := ih vs (by simpa using hv)
      exact ⟨v :: p, by simp [p1], p2.cons _⟩
  | swap a b l =>
    intro vs hv
    match vs, hv with
    | v :: u :: vs, hv => exact ⟨u :: v :: vs, by simpa using hv, List.Perm.swap _ _ _⟩
  | trans h1 h2 ih1 ih2 =>
    intro vs hv
    obtain ⟨p, p1, p2⟩ := ih1 vs hv
    obtain ⟨q, q1, q2⟩ := ih2 p p1
    exact ⟨q, q1, q2.trans p2⟩
theorem serve_exists (k : Nat) (l : List Gr) (hV : ∀ g ∈ l, VGr g) : ∃ p, ServeFacts k l p := by
  have hp := List.mergeSort_perm l fun a b => decide (a.hi ≤ b.hi)
  obtain ⟨p, p1, p2⟩ := perm_zip hp (gre (List.replicate k (-1)) (l.mergeSort fun a b => decide (a.hi ≤ b.hi))) (by rw [gre_len])
  have hs := List.pairwise_mergeSort (le := fun a b : Gr => decide (a.hi ≤ b.hi)) (fun a b c h1 h2 => by simp at *; omega) (fun a b => by simp; omega) l
  exact ⟨p, serve_facts hV ⟨p1, _, hs.imp fun h => of_decide_eq_true h, p2⟩⟩
end Go.Proofs.YthpkgabckklojaaGreat.En

/- The statements about lend: LendLater, plain words; a list of the call's own. -/
namespace Go.Proofs.YthpkgabckklojaaGreat.En
open Go.RowKit Go.Shelf

theorem right_set {l : List Gr} {p : List Int} {k : Nat} (hk : k < l.length) (hn : p.length = l.length) (hR : RightZ (l.zip p)) (g' : Gr) (n : Int) :
    RightZ ((l.set k g').zip (p.set k n)) ↔ ∀ i (hi : i < l.length), i ≠ k → apartP (l[i], p[i]'(by omega)) (g', n) := by
  have hlen : ((l.set k g').zip (p.set k n)).length = l.length := by simp [List.length_zip]; omega
  have hget : ∀ i (hi : i < l.length), ((l.set k g').zip (p.set k n))[i]'(by omega) = if i = k then (g', n) else (l[i], p[i]'(by omega)) := fun i hi => by
    rw [List.getElem_zip, List.getElem_set, List.getElem_set]
    by_cases e : k = i
    · subst e; simp
    · rw [if_neg e, if_neg e, if_neg fun h => e h.symm]
  have hzl : (l.zip p).length = l.length := by rw [List.length_zip]; omega
  constructor
  · intro h i hi hne
    rcases Nat.lt_or_gt_of_ne hne with hlt | hlt
    · have := List.pairwise_iff_getElem.1 h i k (by omega) (by omega) hlt
      rw [hget i hi, hget k hk, if_neg hne, if_pos rfl] at this
      exact this
    · have := List.pairwise_iff_getElem.1 h k i (by omega) (by omega) hlt
      rw [hget i hi, hget k hk, if_neg hne, if_pos rfl] at this
      exact apartP_symm this
  · intro h
    refine List.pairwise_iff_getElem.2 fun i j hi hj hij => ?_
    rw [hlen] at hi hj
    rw [hget i hi, hget j hj]
    by_cases e1 : i = k
    · rw [if_pos e1, if_neg (by omega)]
      exact apartP_symm (h j hj (by omega))
    · rw [if_neg e1]
      by_cases e2 : j = k
      · rw [if_pos e2]; exact h i hi e1
      · rw [if_neg e2]
        have := List.pairwise_iff_getElem.1 hR i j (by omega) (by omega) hij
        rwa [List.getElem_zip, List.getElem_zip] at this
/-- A group as long, at another hour. -/
def moved (g : Gr) (at_ : Int) : Gr := ⟨at_, at_, at_ + (g.hi - g.fr), g.feet⟩
theorem free_set {l : List Gr} {p : List Int} {k : Nat} (hk : k < l.length) (hn : p.length = l.length) (hkp : p[k]'(by omega) = -1) (hV : ∀ g ∈ l, VGr g) (n : Int) (h0 : 0 ≤ n) (a : Int) :
    freeW (tk (l.zip p)) l[k] n a = true ↔ ∀ i (hi : i < l.length), i ≠ k → apartP (l[i], p[i]'(by omega)) (moved l[k] (l[k].fr + a), n) := by
  have hzl : (l.zip p).length = l.length := by rw [List.length_zip]; omega
  have vk := hV _ (List.getElem_mem hk)
  have := vk.fl
  have := vk.lh
  rw [free_apart h0]
  constructor
  · rintro h i hi hne ⟨q1, q2, q3⟩
    have vi := hV _ (List.getElem_mem hi)
    have := vi.fl
    have := vi.lh
    unfold ovl moved at q3
    simp only at q1 q2 q3
    have hz := h (l[i], p[i]'(by omega)) (by rw [← List.getElem_zip (h := by omega)]; exact List.getElem_mem _) q2
    exact hz (max l[i].fr (l[k].fr + a) - a) (inI_iff.2 (by omega)) (inI_iff.2 (by simp only; omega))
  · intro h z hz e t ht hs
    obtain ⟨i, hi, rfl⟩ := List.mem_iff_getElem.1 hz
    rw [hzl] at hi
    rw [List.getElem_zip] at e hs
    simp only at e hs
    by_cases hne : i = k
    · subst hne; omega
    · have s1 := inI_iff.1 ht
      have s2 := inI_iff.1 hs
      exact h i hi hne ⟨by simp only; omega, e, by unfold ovl moved; simp only; omega⟩
theorem laterN_spec (m : Int × Int → Bool) (k : Nat) (g : Gr) : ∀ N : Nat, (laterN m k g N = none ∧ ∀ A, A < N → ∀ n, n < k → freeW m g (n : Int) A = false) ∨
    ∃ A n : Nat, laterN m k g N = some ((n : Int), g.fr + A) ∧ A < N ∧ n < k ∧ freeW m g n A = true ∧ (∀ n', n' < n → freeW m g (n' : Int) A = false) ∧ ∀ A', A' < A → ∀ n', n' < k → freeW m g (n' : Int) A' = false
  | 0 => .inl ⟨rfl, fun A h => by omega⟩
  | N + 1 => by
    rcases laterN_spec m k g N with ⟨h1, h2⟩ | ⟨A, n, h1, h2, h3⟩
    · have hs := laterN_snoc h1
      cases hl : laneV m k g N with
      | none =>
        rw [hl] at hs
        refine .inl ⟨hs, fun A hA n hn => ?_⟩
        by_cases e : A = N
        · subst e
          have := List.find?_eq_none.1 hl n (List.mem_range.2 hn)
          simpa using this
        · exact h2 A (by omega) n hn
      | some n =>
        rw [hl] at hs
        obtain ⟨q1, q2⟩ := List.find?_range_eq_some.1 hl
        exact .inr ⟨N, n, hs, by omega, List.mem_range.1 q2.1, q1, fun n' hn' => by simpa using q2.2 n' hn', fun A' hA' n' hn' => h2 A' hA' n' hn'⟩
    · exact .inr ⟨A, n, laterN_mono h1 (by omega), by omega, h3⟩
theorem lList_o (xs : List Int) (a : Option Addr) (cap : Nat) (hx : xs.length ≤ 1000000) : Cx Tryz.prog 83 [.slice a xs.length cap] [] (KSl a xs.length cap encI xs) (fun v : Value => v) (fun v => [ow v 3 1 xs.length (xs.flatMap encI)]) (fun _ => KTrue) := by
  refine Cx_of Tryz.func83 rfl Tryz.ntmps83 rfl fun w0 M0 => ?_
  refine JC_seq ?_
  refine JC_region ?_
  refine JL_pd rfl (det_assign rfl) ?_
  refine JL_nil ?_
  refine JE_seq ?_
  refine JC_seq ?_
  refine JC_region ?_
  refine JL_pd rfl (det_move rfl) ?_
  -- stop: op  1 t4 := (call (Call (builtin append) ((slice none 0 0) t3) (31 31)))   <0>   11
  refine JL_nilS 3 1 ?_
  refine JL_step rfl rfl rfl (jo_appendK (e := encI) el_31 rfl rfl encI_one (by simpa using hx)) fun v => ?_
  refine JL_pd rfl (det_assign rfl) ?_
  refine JL_nil ?_
  refine JE_seq ?_
  refine JC_ret ?_
  -- stop: out
  simp only [Nat.zero_add, List.nil_append]
  refine JE_out (.inl rfl) v (results1 Tryz.results83 (res_tmp rfl)) rfl (List.Perm.refl _) (fun _ _ => trivial)
theorem set_mid {α : Type} : ∀ (A B C : List α) (c : Nat) (v : α), c < B.length → (A ++ B ++ C).set (A.length + c) v = A ++ B.set c v ++ C
  | [], B, C, c, v, h => by simp [List.set_append_left _ _ h]
  | a :: A, B, C, c, v, h => by
    have := set_mid A B C c v h
    simp only [List.cons_append, List.length_cons]
    rw [show A.length + 1 + c = (A.length + c) + 1 by omega, List.set_cons_succ, this]
theorem splice_mid : ∀ (vs A B C : List Value) (c : Nat), c + vs.length ≤ B.length → splice (A ++ B ++ C) (A.length + c) vs = A ++ splice B c vs ++ C
  | [], A, B, C, c, _ => rfl
  | v :: vs, A, B, C, c, h => by
    simp only [List.length_cons] at h
    rw [splice, splice, set_mid A B C c v (by omega), Nat.add_assoc]
    exact splice_mid vs A (B.set c v) C (c + 1) (by rw [List.length_set]; omega)
/-- A part of a record put anew. -/
theorem splice_in {α : Type} (enc : α → List Value) {z : Nat} [hz : Rec enc z] (xs : List α) (i : Nat) (y : α) (c : Nat) (vs : List Value) (hi : i < xs.length) (hc : c + vs.length ≤ z) (hy : splice (enc xs[i]) c vs = enc y) : splice (xs.flatMap enc) (i * z + c) vs = (xs.set i y).flatMap enc := by
  have e : xs.flatMap enc = (xs.take i).flatMap enc ++ enc xs[i] ++ (xs.drop (i + 1)).flatMap enc := by
    conv => lhs; rw [← List.take_append_drop i xs, List.drop_eq_getElem_cons hi, List.flatMap_append, List.flatMap_cons, ← List.append_assoc]
  have hl : ((xs.take i).flatMap enc).length = i * z := by rw [flat_len, List.length_take, Nat.min_eq_left (by omega)]
  rw [e, ← hl, splice_mid _ _ _ _ _ (by rw [hz.len]; exact hc), hy, List.set_eq_take_append_cons_drop, if_pos hi, List.flatMap_append, List.flatMap_cons, ← List.append_assoc]
end Go.Proofs.YthpkgabckklojaaGreat.En

/- Walks of lend: fittings. -/
namespace Go.Proofs.YthpkgabckklojaaGreat.En
open Go.RowKit Go.Shelf Go.Proofs Go.Lib
open Go.Sort hiding Below

def cfF (l : List Int) (x y : Nat) : Int := l[x]! - l[y]!
theorem cfF_lt (l : List Int) (x y : Nat) : cfF l x y < 0 ↔ l[x]! < l[y]! := by unfold cfF; omega
theorem swoF (l : List Int) (n : Nat) : SWO (ltOf fun x y : { i : Nat // i < n } => cfF l x.1 y.1) where
  irrefl x := decide_eq_false (by rw [cfF_lt]; omega)
  trans x y z h1 h2 := by
    have h1 := (cfF_lt _ _ _).1 (of_decide_eq_true h1)
    have h2 := (cfF_lt _ _ _).1 (of_decide_eq_true h2)
    exact decide_eq_true ((cfF_lt _ _ _).2 (by omega))
  ntrans x y z h1 h2 := by
    have h1 := mt (cfF_lt _ _ _).2 (of_decide_eq_false h1)
    have h2 := mt (cfF_lt _ _ _).2 (of_decide_eq_false h2)
    exact decide_eq_false (mt (cfF_lt _ _ _).1 (by omega))
theorem flatI_get (l : List Int) (i : Nat) (h : i < l.length) : (l.flatMap encI)[i]? = some (I l[i]) := by
  rw [show encI = fun v => [I v] from rfl, flat1 (fun v : Int => I v), List.getElem?_map, List.getElem?_eq_getElem h]; rfl
theorem fit_cmp (l : List Int) (hV : ∀ f ∈ l, 0 ≤ f ∧ f ≤ 9) (fb : Nat) (a : Option Addr) (c : Nat) (W : World) (h0 : Box W fb [.slice a l.length c]) (h1 : KSl a l.length c encI l W) (x y : Nat) (hx : x < l.length) (hy : y < l.length) :
    Calls Tryz.prog 130 (#[I x, I y] ++ [pt fb].toArray) W fun e w' => e = .returned (I (cfF l x y)) ∧ Grown W w' := by
  have hne : l.flatMap encI ≠ [] := fun e => by
    have := flat_len encI l
    rw [e] at this; simp at this; omega
  obtain ⟨sb, so, rfl, hc⟩ := cell_of h1 hne
  have := hV _ (List.getElem_mem hx)
  have := hV _ (List.getElem_mem hy)
  have hr := fit1_any x y l.length c fb sb so l[x] l[y] hx hy (by omega) (by omega) W (fun q os => cell_grown h0.lt (h0.cell 0 rfl) q os)
    (fun q os => hc x _ (flatI_get l x hx) q os) (fun q os => hc y _ (flatI_get l y hy) q os)
  unfold cfF
  rw [getElem!_pos l x hx, getElem!_pos l y hy]
  exact hr
def encF (f : Nat) : List Value := [.func (.func f) #[] #[]]
instance : Rec encF 1 := ⟨fun _ => rfl, by decide⟩
theorem own_j (f : Int) : Cv Tryz.prog 181 [I f] KTrue (I f) := by
  refine Cx_of Tryz.func181 rfl Tryz.ntmps181 rfl fun w0 M0 => ?_
  refine JC_seq ?_
  refine JC_region ?_
  refine JL_pd rfl (det_assign rfl) ?_
  refine JL_nil ?_
  refine JE_seq ?_
  refine JC_seq ?_
  refine JC_region ?_
  refine JL_pd rfl (det_move rfl) ?_
  refine JL_pd rfl (det_assign rfl) ?_
  refine JL_nil ?_
  refine JE_seq ?_
  refine JC_ret ?_
  refine JE_out (.inl rfl) () (results1 Tryz.results181 (res_tmp rfl)) ?_ (List.Perm.refl _) (fun _ _ => trivial)
  rfl
theorem next_j (f : Int) (h : 0 ≤ f ∧ f ≤ 9) : Cv Tryz.prog 182 [I f] KTrue (I (f + 1)) := by
  refine Cx_of Tryz.func182 rfl Tryz.ntmps182 rfl fun w0 M0 => ?_
  refine JC_seq ?_
  refine JC_region ?_
  refine JL_pd rfl (det_assign rfl) ?_
  refine JL_nil ?_
  refine JE_seq ?_
  refine JC_seq ?_
  refine JC_region ?_
  refine JL_pd rfl (det_move rfl) ?_
  refine JL_pd rfl (det_add rfl rfl ⟨by omega, by omega⟩) ?_
  refine JL_pd rfl (det_assign rfl) ?_
  refine JL_nil ?_
  refine JE_seq ?_
  refine JC_ret ?_
  refine JE_out (.inl rfl) () (results1 Tryz.results182 (res_tmp rfl)) ?_ (List.Perm.refl _) (fun _ _ => trivial)
  rfl
theorem wears_j : Cr Tryz.prog 131 [] KTrue (fun b : Nat => .slice (some ⟨b, 0, none⟩) 2 2) (fun b => KSl (some ⟨b, 0, none⟩) 2 2 encF [181, 182]) := by
  refine Cx_of Tryz.func131 rfl Tryz.ntmps131 rfl fun w0 M0 => ?_
  refine JC_seq ?_
  refine JC_region ?_
  refine JL_pd rfl (det_assign rfl) ?_
  refine JL_nil ?_
  refine JE_seq ?_
  refine JC_seq ?_
  refine JC_region ?_
  refine JL_pd rfl (det_build rfl (bld_248_0 _ _ _)) ?_
  refine JL_pd rfl (det_build rfl (bld_248_0 _ _ _)) ?_
  refine JL_step rfl rfl rfl (jo_buildSlice rfl (bsl_244_2_0_1 _ _ _ _ _ _)) fun b3 => ?_
  refine JL_pd rfl (det_assign rfl) ?_
  refine JL_nil ?_
  refine JE_seq ?_
  refine JC_ret ?_
  -- stop: out
  refine JE_lit (enc := encF) b3 2 [181, 182] noFp rfl rfl (by decide) ?_
  refine JE_out (.inl rfl) b3 (results1 Tryz.results131 (res_tmp rfl)) rfl (List.Perm.refl _) (fun w h => h.1)
theorem wearS_own {left : List Int} {f : Int} (h0 : 0 ≤ f ∧ f ≤ 9) (h : 0 < shoe left f) : wearS left f = f := by
  unfold wearS; rw [if_pos ⟨inI_iff.2 h0, h⟩]
theorem wearS_next {left : List Int} {f : Int} (h0 : ¬ 0 < shoe left f) (h1 : f + 1 ≤ 9 ∧ 0 ≤ f) (h : 0 < shoe left (f + 1)) : wearS left f = f + 1 := by
  unfold wearS; rw [if_neg (fun q => h0 q.2), if_pos ⟨inI_iff.2 (by omega), h⟩]
theorem wearS_none {left : List Int} {f : Int} (h0 : ¬ 0 < shoe left f) (h : ¬ (inI (f + 1) 0 9 = true ∧ 0 < shoe left (f + 1))) : wearS left f = -1 := by
  unfold wearS; rw [if_neg (fun q => h0 q.2), if_neg h]
theorem leftA_bd : ∀ (L left : List Int), left.length = 10 → (∀ s : Nat, s < 10 → 0 ≤ shoe left s ∧ shoe left s ≤ 20) → ∀ s : Nat, s < 10 → 0 ≤ shoe (leftA left L) s ∧ shoe (leftA left L) s ≤ 20
  | [], _, _, h => h
  | f :: L, left, hn, h => leftA_bd L (left' left f) (by rw [left'_len, hn]) fun s hs => by
    have q := h s hs
    rw [shoe_left' hn f s]
    split
    · rename_i e
      have := (wearS_pos (left := left) (f := f) (by omega)).1
      rw [e] at this; omega
    · omega
theorem splice_full {cs vs : List Value} (h : cs.length = vs.length) : splice cs 0 vs = vs := by simpa using splice_at vs [] cs [] h
set_option maxRecDepth 100000 in
set_option maxHeartbeats 1000000 in
theorem fit_jo (x : Hx) (a : Option Addr) (c : Nat) (feet : List Int) (hv : VHs x.h) (hl : feet.length ≤ 100) (hf : ∀ f ∈ feet, 0 ≤ f ∧ f ≤ 9) : Cr Tryz.prog 85 [.agg #[I x.h.lanes, .slice x.a x.h.shoes.length x.c], .slice a feet.length c] (KAnd (KHx x) (KSl a feet.length c encI feet)) (fun q : Nat × { p : List Int // FitOk x.h.shoes feet p } => .slice (some ⟨q.1, 0, none⟩) feet.length feet.length)
    (fun q => KSl (some ⟨q.1, 0, none⟩) feet.length feet.length encI q.2.1) := by
  have hn := hv.n
  have hfc : (x.h.shoes.flatMap encI).length = 10 := by rw [flat_len, hn]
  refine Cx_of Tryz.func85 rfl Tryz.ntmps85 rfl fun w0 M0 => ?_
  refine JC_seq ?_
  refine JC_region ?_
  refine JL_step rfl rfl rfl (jo_box rfl rfl) fun b2 => ?_
  refine JL_step rfl rfl rfl (jo_box rfl rfl) fun b3 => ?_
  refine JL_pd rfl (det_assign rfl) ?_
  refine JL_nil ?_
  refine JE_seq ?_
  refine JC_scope rfl ?_
  refine JC_seq ?_
  refine JC_region ?_
  refine JL_step rfl rfl rfl (jo_alloc0 Tryz.zeroValue243 rfl) fun b5 => ?_
  refine JL_nil ?_
  refine JE_seq ?_
  refine JC_seq ?_
  refine JC_draw [3] (by kernel_rfl) ?_
  refine JA_pd (i := 0) rfl (by kernel_rfl) rfl rfl (det_sliceArr rfl Tryz.runUnderlying243 Tryz.sizeOf3) ?_
  refine JA_pd (i := 1) rfl (by kernel_rfl) rfl rfl (det_fieldAddr rfl fo_86_1) ?_
  refine JA_dt (i := 2) rfl (by kernel_rfl) (by kernel_rfl) rfl rfl (det_loadK rfl Tryz.isAgg31 rfl) ?_
  refine JA_tail (i := 3) (by kernel_rfl) rfl rfl rfl rfl (jo_copyKB (e := encI) 10 (x.h.shoes.flatMap encI) rfl rfl Tryz.runUnderlying31 Tryz.sizeOf3 (by rw [hn]; rfl) (by rw [List.take_of_length_le (by omega)]; exact splice_full (by rw [hfc]; rfl)) (by decide) (fun _ => rfl)) fun b17 => ?_
  refine JT_done (by kernel_rfl) ?_
  refine JE_seq ?_
  refine JC_seq ?_
  refine JC_region ?_
  refine JL_dt rfl (det_loadK rfl Tryz.isAgg31 rfl) ?_
  refine JL_pd rfl (det_len rfl Tryz.runUnderlying31) ?_
  refine JL_step rfl rfl rfl (jo_makeSlice (n := feet.length) (zv := I 0) (z := 1) (bytes := 8) rfl rfl rfl Tryz.underlying31 (by kernel_rfl) (by omega) (by omega)) fun b20 => ?_
  refine JL_pd rfl (det_assign rfl) ?_
  refine JL_nil ?_
  refine JE_seq ?_
  refine JC_seq ?_
  refine JC_seq ?_
  refine JC_region ?_
  refine JL_dt rfl (det_loadK rfl Tryz.isAgg31 rfl) ?_
  refine JL_pd rfl (det_len rfl Tryz.runUnderlying31) ?_
  refine JL_pd rfl (det_move rfl) ?_
  refine JL_nil ?_
  refine JE_seq ?_
  refine JC_block ?_
  -- stop: loop
  refine JC_keep b3 noFp ?_
  refine JC_keep b2 noFp ?_
  refine JC_loopF (γ := Nat) (fun i => i ≤ feet.length) (fun i => [(23, I i)]) (fun i => [ow (.slice (some ⟨b20, 0, none⟩) feet.length feet.length) 3 1 feet.length ((ordI feet.length i).flatMap encN)]) (fun i => feet.length - i) 0 (Nat.zero_le _) (stsub_consI rfl rfl stsub_nil) (ht_ow rfl (ordI_zero _) ht_nil) ?_
  intro i hi K hK
  dsimp only [List.cons_append, List.nil_append]
  refine JC_seq ?_
  refine JC_region ?_
  refine JL_pd rfl (det_lss rfl rfl) ?_
  refine JL_nil ?_
  refine JE_seq ?_
  refine JC_seq ?_
  -- stop: cond
  refine JC_if rfl (fun h2 => ?_) (fun h2 => ?_)
  · have hi2 : i < feet.length := by omega
    refine JC_skip ?_
    refine JE_seq ?_
    refine JC_seq ?_
    refine JC_block ?_
    refine JC_seq ?_
    refine JC_region ?_
    refine JL_pd rfl (det_move rfl) ?_
    refine JL_pd rfl (det_assign rfl) ?_
    refine JL_nil ?_
    refine JE_seq ?_
    refine JC_region ?_
    refine JL_pd rfl (det_move rfl) ?_
    refine JL_pd rfl (det_move rfl) ?_
    refine JL_pd rfl (det_move rfl) ?_
    refine JL_pd rfl (det_indexOwn (i := i) rfl rfl (by first | rfl | omega) (by first | assumption | omega) Tryz.runUnderlying31 Tryz.sizeOf3) ?_
    refine JL_step0 rfl rfl (jo_storeO (xs' := (ordI feet.length (i + 1)).flatMap encN) (vs := encN i) rfl rfl rfl (by rw [splice_rec encN _ i i (by rw [ordI_len (by omega)]; exact hi2), ordI_set hi2]) Tryz.sizeOf3 (by rw [flat_len, ordI_len (by omega)]; simp [encN]; omega) rfl) fun _ => ?_
    refine JL_nil ?_
    refine JE_block ?_
    refine JE_seq ?_
    refine JC_region ?_
    refine JL_pd rfl (det_add rfl rfl ⟨by omega, by omega⟩) ?_
    refine JL_pd rfl (det_move rfl) ?_
    refine JL_nil ?_
    -- stop: end
    refine JE_roundF hK (i + 1) (by omega) (by omega) (stsub_consI rfl (by omega) stsub_nil) (ht_cons ht_nil)
  · obtain rfl : i = feet.length := by omega
    rw [ordI_all]
    have hsrt := sortN_y 130 feet.length [pt b3] (KAnd (KBox b3 [.slice a feet.length c]) (KSl a feet.length c encI feet)) (cfF feet) Tryz.call130 (swoF _ _) (fun W hW x y hx hy => fit_cmp feet hf b3 a c W hW.1 hW.2 x y hx hy) b20 feet.length feet.length (List.range feet.length) (fun i hi => List.mem_range.1 hi) (by simp) (by omega)
    refine JC_exit ?_
    refine JE_seq_exit ?_
    refine JE_then_exit ?_
    refine JE_block_here ?_
    refine JE_seq ?_
    refine JC_seq ?_
    refine JC_region ?_
    refine JL_pd rfl (det_move rfl) ?_
    refine JL_pd rfl (det_makeFuncE rfl rfl) ?_
    -- stop: op  2 t33 := (call (Call (value f78) (t31 t32) (31 180)))   <0 1>   47
    refine JL_step rfl rfl rfl (jo_callx rfl rfl Tryz.call78 rfl (hsrt) (pick_perm)) fun ts => ?_
    refine JL_nil ?_
    refine JE_seq ?_
    refine JC_seq ?_
    refine JC_region ?_
    refine JL_step rfl rfl rfl (jo_buildSlice rfl (bsl_31_1_0 _)) fun b34 => ?_
    refine JL_dt rfl (det_loadK rfl Tryz.isAgg31 rfl) ?_
    refine JL_pd rfl (det_len rfl Tryz.runUnderlying31) ?_
    refine JL_lit (enc := encI) b34 1 [(-1 : Int)] noFp rfl rfl (by decide) ?_
    refine JL_step rfl rfl rfl (jo_call rfl rfl Tryz.call81 rfl (Repeat_i (feet.length : Int) feet.length rfl (by omega) _ _ (-1))) fun b37 => ?_
    refine JL_pd rfl (det_assign rfl) ?_
    refine JL_nil ?_
    refine JE_seq ?_
    refine JC_seq ?_
    refine JC_label ?_
    refine JE_seq ?_
    refine JC_seq ?_
    refine JC_seq ?_
    refine JC_region ?_
    refine JL_pd rfl (det_move rfl) ?_
    refine JL_pd rfl (det_len rfl Tryz.runUnderlying31) ?_
    refine JL_pd rfl (det_move rfl) ?_
    refine JL_nil ?_
    refine JE_seq ?_
    refine JC_block ?_
    -- stop: loop
    obtain ⟨ts, hts, hto⟩ := ts
    have htl : ts.length = feet.length := by rw [hts.length_eq, List.length_range]
    have htn : ∀ i ∈ ts, i < feet.length := fun i hi => List.mem_range.1 (hts.mem_iff.1 hi)
    have htd : ts.Nodup := hts.nodup_iff.2 List.nodup_range
    dsimp only
    refine JC_kl (enc := encN) (.slice (some ⟨b20, 0, none⟩) feet.length feet.length) ts noFp fun a' cap' e' => ?_
    have e1 : a' = some ⟨b20, 0, none⟩ := (Value.slice.inj e').1.symm
    have e2 : cap' = feet.length := (Value.slice.inj e').2.2.symm
    subst e1 e2
    refine JC_know (R' := KAnd (KSl (some ⟨b20, 0, none⟩) feet.length feet.length encN ts) (KAnd (KBox b2 [I x.h.lanes, .slice x.a x.h.shoes.length x.c]) (KAnd (KBox b3 [.slice a feet.length c]) (KAnd (KHx x) (KSl a feet.length c encI feet))))) (fun w h => ⟨by have := h.1; rwa [htl] at this, Knows.know w h.2⟩) ?_
    generalize hL : ts.map (fun i => feet[i]!) = L
    have hLl : L.length = feet.length := by rw [← hL, List.length_map, htl]
    have hLg : ∀ j (hj : j < ts.length), L[j]'(by omega) = feet[ts[j]]'(htn _ (List.getElem_mem hj)) := fun j hj => by
      subst hL
      rw [List.getElem_map]; exact getElem!_pos feet _ (htn _ (List.getElem_mem hj))
    refine JC_loopF (γ := Nat × List Int) (fun q => q.1 ≤ feet.length ∧ Fills feet.length ts (greS x.h.shoes L) q.1 q.2) (fun q => [(40, I q.1)]) (fun q => [ow (.slice (some ⟨b37, 0, none⟩) feet.length feet.length) 3 1 feet.length (q.2.flatMap encI), bx b5 ((leftA x.h.shoes (L.take q.1)).flatMap encI)]) (fun q => feet.length - q.1) (0, List.replicate feet.length (-1)) ⟨Nat.zero_le _, .start htn⟩ (stsub_consI rfl rfl stsub_nil) (ht_cons (ht_bx (by rw [List.take_zero]; rfl) ht_nil)) ?_
    rintro ⟨j, p⟩ ⟨hj, hfl⟩ K hK
    dsimp only [List.cons_append, List.nil_append] at hj hfl ⊢
    refine JC_seq ?_
    refine JC_region ?_
    refine JL_pd rfl (det_lss rfl rfl) ?_
    refine JL_nil ?_
    refine JE_seq ?_
    refine JC_seq ?_
    -- stop: cond
    refine JC_if rfl (fun h3 => ?_) (fun h3 => ?_)
    · have hj2 : j < ts.length := by omega
      have hi := htn _ (List.getElem_mem hj2)
      generalize hE : leftA x.h.shoes (L.take j) = E
      have hEl : E.length = 10 := by rw [← hE, leftA_len, hn]
      have hj3 : j < feet.length := by omega
      have hf0 := hf _ (List.getElem_mem hi)
      have hg : ∀ s : Nat, s < 10 → (E.flatMap encI)[s * 1]? = some (I (shoe E s)) := fun s hs => by
        rw [Nat.mul_one, flatI_get E s (by omega), shoe_get (by omega)]
      obtain ⟨f, hfn⟩ : ∃ f : Nat, feet[ts[j]] = (f : Int) := ⟨feet[ts[j]].toNat, by omega⟩
      have hpn := hfl.n
      have hbd := leftA_bd (L.take j) x.h.shoes hn (fun s hs => by rw [shoe_get (by omega)]; exact hv.s _ (List.getElem_mem _))
      rw [hE] at hbd
      have hvj : (greS x.h.shoes L).getD j 0 = wearS E feet[ts[j]] := by
        have hjL : j < L.length := by omega
        rw [List.getD_eq_getElem?_getD, List.getElem?_eq_getElem (by rw [greS_len]; exact hjL), greS_get L _ j hjL, hE, hLg j hj2]; rfl
      have hsn : L.take (j + 1) = L.take j ++ [feet[ts[j]]] := by rw [take_snoc (by omega), hLg j hj2]
      have hb1 := hbd f (by omega)
      refine JC_skip ?_
      refine JE_seq ?_
      refine JC_seq ?_
      refine JC_block ?_
      refine JC_seq ?_
      refine JC_region ?_
      refine JL_dt rfl (det_indexAddr rfl rfl (by first | rfl | omega) (by first | assumption | omega | decide) Tryz.runUnderlying31 Tryz.sizeOf3) ?_
      refine JL_dt rfl (det_loadE (n := feet.length) (xs := ts) (v := I ((ts[j] : Nat) : Int)) rfl hj3 Tryz.isAgg3 htl.symm rfl) ?_
      refine JL_pd rfl (det_assign rfl) ?_
      refine JL_nil ?_
      refine JE_seq ?_
      refine JC_seq ?_
      refine JC_region ?_
      refine JL_step rfl rfl rfl (jo_call rfl rfl Tryz.call131 rfl (wears_j)) fun x44 => ?_
      refine JL_pd rfl (det_len rfl Tryz.runUnderlying244) ?_
      refine JL_pd rfl (det_move rfl) ?_
      refine JL_nil ?_
      refine JE_seq ?_
      refine JC_block ?_
      -- stop: loop
      refine JC_loopF (γ := Nat) (fun i => i ≤ 2 ∧ (1 ≤ i → ¬ 0 < shoe E feet[ts[j]]) ∧ (2 ≤ i → ¬ (inI (feet[ts[j]] + 1) 0 9 = true ∧ 0 < shoe E (feet[ts[j]] + 1)))) (fun i => [(46, I i)]) (fun _ => []) (fun i => 2 - i) 0 ⟨by omega, by omega, by omega⟩ (stsub_consI rfl rfl stsub_nil) ht_nil ?_
      rintro i ⟨hi2, q1, q2⟩ K' hK'
      dsimp only [List.cons_append, List.nil_append]
      refine JC_seq ?_
      refine JC_region ?_
      refine JL_pd rfl (det_lss rfl rfl) ?_
      refine JL_nil ?_
      refine JE_seq ?_
      refine JC_seq ?_
      -- stop: cond
      refine JC_if rfl (fun h4 => ?_) (fun h4 => ?_)
      · skip
        rcases (by omega : i = 0 ∨ i = 1) with rfl | rfl
        · skip
          refine JC_skip ?_
          refine JE_seq ?_
          refine JC_seq ?_
          refine JC_block ?_
          refine JC_seq ?_
          refine JC_region ?_
          refine JL_dt rfl (det_indexAddr rfl rfl (by first | rfl | omega) (by first | assumption | omega | decide) Tryz.runUnderlying244 Tryz.sizeOf248) ?_
          refine JL_dt rfl (det_loadEA (n := 2) (xs := [181, 182]) (i := 0) rfl (by decide) Tryz.isAgg248 Tryz.sizeOf248 rfl rfl rfl) ?_
          refine JL_step rfl rfl rfl (jo_alloc0 Tryz.zeroValue248 rfl) fun b12 => ?_
          refine JL_step0 rfl rfl (jo_store rfl rfl rfl (by first | (simp only [splice_norm]; done) | (simp only [splice_norm]; rfl) | rfl) Tryz.sizeOf248 rfl rfl) fun _ => ?_
          refine JL_nil ?_
          refine JE_seq ?_
          refine JC_seq ?_
          refine JC_draw [] (by kernel_rfl) ?_
          refine JA_pd (i := 0) rfl (by kernel_rfl) rfl rfl (det_fieldAddr rfl fo_248_0) ?_
          refine JA_dt (i := 1) rfl (by kernel_rfl) (by kernel_rfl) rfl rfl (det_loadK rfl Tryz.isAgg246 rfl) ?_
          refine JA_dt (i := 2) rfl (by kernel_rfl) (by kernel_rfl) rfl rfl (det_loadK rfl Tryz.isAgg31 rfl) ?_
          refine JA_pd (i := 3) rfl (by kernel_rfl) rfl rfl (det_move rfl) ?_
          refine JA_dt (i := 4) rfl (by kernel_rfl) (by kernel_rfl) rfl rfl (det_indexAddr rfl rfl (by first | rfl | omega) (by first | assumption | omega | decide) Tryz.runUnderlying31 Tryz.sizeOf3) ?_
          refine JA_dt (i := 5) rfl (by kernel_rfl) (by kernel_rfl) rfl rfl (det_loadE rfl (by first | assumption | omega | decide) Tryz.isAgg3 rfl rfl) ?_
          -- stop: op  6 t56 := (call (Call (value t51) (t55) (249)))   <1 5>   52
          refine JA_one (i := 6) (by kernel_rfl) rfl rfl (jo_callv rfl rfl Tryz.call181 rfl (own_j feet[ts[j]])) (fun _ => ⟨hsub_refl, fun _ h => h⟩) fun _ => ?_
          refine JA_pd (i := 7) rfl (by kernel_rfl) rfl rfl (det_assign rfl) ?_
          refine JA_done (by kernel_rfl) ?_
          refine JE_seq ?_
          refine JC_seq ?_
          refine JC_region ?_
          refine JL_pd rfl (det_move rfl) ?_
          refine JL_step rfl rfl rfl (jo_callv rfl rfl Tryz.call129 rfl (size_j _)) fun _ => ?_
          refine JL_pd rfl (det_move rfl) ?_
          -- stop: guard 2
          refine JL_is (d0 := 59) true rfl (by exact inI_iff.2 hf0) (fun g1 => ?_)
          refine JL_guard rfl rfl g1 ?_
          refine JL_pd rfl (det_move rfl) ?_
          refine JL_guard rfl rfl g1 ?_
          refine JL_pd rfl (det_indexArr (i := f) rfl rfl (by omega) (by omega) Tryz.runUnderlying243 Tryz.sizeOf3) ?_
          refine JL_guard rfl rfl g1 ?_
          refine JL_dt rfl (det_loadK rfl Tryz.isAgg3 (by rw [Nat.zero_add]; exact hg f (by omega))) ?_
          refine JL_guard rfl rfl g1 ?_
          refine JL_pd rfl (det_gtr rfl rfl) ?_
          refine JL_pd rfl (det_pick_t rfl g1 rfl) ?_
          refine JL_nil ?_
          refine JE_seq ?_
          -- stop: cond
          refine JC_if rfl (fun h5 => ?_) (fun h5 => ?_)
          · skip
            have hw : wearS E feet[ts[j]] = (f : Int) := by rw [wearS_own hf0 (by rw [hfn]; exact h5), hfn]
            have hE2 : leftA x.h.shoes (L.take (j + 1)) = E.set f (shoe E f - 1) := by rw [hsn, leftA_snoc, hE, left', hw, if_neg (by omega), Int.toNat_natCast]
            rw [hfn]
            refine JC_seq ?_
            refine JC_region ?_
            refine JL_pd rfl (det_move rfl) ?_
            refine JL_pd rfl (det_indexArr (i := f) rfl rfl (by omega) (by omega) Tryz.runUnderlying243 Tryz.sizeOf3) ?_
            refine JL_dt rfl (det_loadK rfl Tryz.isAgg3 (by rw [Nat.zero_add]; exact hg f (by omega))) ?_
            refine JL_pd rfl (det_sub rfl rfl ⟨by omega, by omega⟩) ?_
            refine JL_pd rfl (det_indexArr (i := f) rfl rfl (by omega) (by omega) Tryz.runUnderlying243 Tryz.sizeOf3) ?_
            refine JL_step0 rfl rfl (jo_store (cs' := (E.set f (shoe E f - 1)).flatMap encI) (vs := [I (shoe E f - 1)]) rfl rfl rfl (by rw [Nat.zero_add]; exact splice_rec encI E f (shoe E f - 1) (by omega)) Tryz.sizeOf3 (Nat.ble_eq_true_of_le (by rw [flat_len, hEl]; simp; omega)) rfl) fun _ => ?_
            refine JL_nil ?_
            refine JE_seq ?_
            refine JC_seq ?_
            refine JC_region ?_
            refine JL_pd rfl (det_move rfl) ?_
            refine JL_pd rfl (det_move rfl) ?_
            refine JL_pd rfl (det_move rfl) ?_
            refine JL_pd rfl (det_indexOwn (i := ts[j]) rfl rfl (by first | rfl | omega) (by first | assumption | omega) Tryz.runUnderlying31 Tryz.sizeOf3) ?_
            refine JL_step0 rfl rfl (jo_storeO (xs' := (p.set ts[j] (f : Int)).flatMap encI) (vs := encI (f : Int)) rfl rfl rfl (splice_rec encI p ts[j] (f : Int) (by omega)) Tryz.sizeOf3 (by rw [flat_len, hpn]; simp [encI]; omega) rfl) fun _ => ?_
            refine JL_nil ?_
            refine JE_seq ?_
            refine JC_exit ?_
            refine JE_block_on rfl ?_
            refine JE_seq_exit ?_
            refine JE_then_exit ?_
            refine JE_block_on rfl ?_
            refine JE_block_here ?_
            refine JE_seq ?_
            refine JC_region ?_
            refine JL_pd rfl (det_add rfl rfl ⟨by omega, by omega⟩) ?_
            refine JL_pd rfl (det_move rfl) ?_
            refine JL_nil ?_
            -- stop: end
            refine JE_roundF hK (j + 1, p.set ts[j] ((greS x.h.shoes L).getD j 0)) ⟨by simp only; omega, hfl.set htd hj2 htn⟩ (by simp only; omega) (stsub_consI rfl (by simp only; omega) stsub_nil) (ht_ow rfl (by rw [hvj, hw]) (ht_bx (by rw [hE2]) ht_nil))
          · refine JC_skip ?_
            refine JE_block ?_
            refine JE_seq ?_
            refine JC_region ?_
            refine JL_pd rfl (det_add rfl rfl ⟨by omega, by omega⟩) ?_
            refine JL_pd rfl (det_move rfl) ?_
            refine JL_nil ?_
            -- stop: end
            refine JE_roundF hK' 1 ⟨by omega, fun _ => by rw [hfn]; exact h5, by omega⟩ (by omega) (stsub_consI rfl rfl stsub_nil) ht_nil
        · have q1 := q1 (by omega)
          refine JC_skip ?_
          refine JE_seq ?_
          refine JC_seq ?_
          refine JC_block ?_
          refine JC_seq ?_
          refine JC_region ?_
          refine JL_dt rfl (det_indexAddr rfl rfl (by first | rfl | omega) (by first | assumption | omega | decide) Tryz.runUnderlying244 Tryz.sizeOf248) ?_
          refine JL_dt rfl (det_loadEA (n := 2) (xs := [181, 182]) (i := 1) rfl (by decide) Tryz.isAgg248 Tryz.sizeOf248 rfl rfl rfl) ?_
          refine JL_step rfl rfl rfl (jo_alloc0 Tryz.zeroValue248 rfl) fun b12 => ?_
          refine JL_step0 rfl rfl (jo_store rfl rfl rfl (by first | (simp only [splice_norm]; done) | (simp only [splice_norm]; rfl) | rfl) Tryz.sizeOf248 rfl rfl) fun _ => ?_
          refine JL_nil ?_
          refine JE_seq ?_
          refine JC_seq ?_
          refine JC_draw [] (by kernel_rfl) ?_
          refine JA_pd (i := 0) rfl (by kernel_rfl) rfl rfl (det_fieldAddr rfl fo_248_0) ?_
          refine JA_dt (i := 1) rfl (by kernel_rfl) (by kernel_rfl) rfl rfl (det_loadK rfl Tryz.isAgg246 rfl) ?_
          refine JA_dt (i := 2) rfl (by kernel_rfl) (by kernel_rfl) rfl rfl (det_loadK rfl Tryz.isAgg31 rfl) ?_
          refine JA_pd (i := 3) rfl (by kernel_rfl) rfl rfl (det_move rfl) ?_
          refine JA_dt (i := 4) rfl (by kernel_rfl) (by kernel_rfl) rfl rfl (det_indexAddr rfl rfl (by first | rfl | omega) (by first | assumption | omega | decide) Tryz.runUnderlying31 Tryz.sizeOf3) ?_
          refine JA_dt (i := 5) rfl (by kernel_rfl) (by kernel_rfl) rfl rfl (det_loadE rfl (by first | assumption | omega | decide) Tryz.isAgg3 rfl rfl) ?_
          -- stop: op  6 t56 := (call (Call (value t51) (t55) (249)))   <1 5>   52
          refine JA_one (i := 6) (by kernel_rfl) rfl rfl (jo_callv rfl rfl Tryz.call182 rfl (next_j feet[ts[j]] hf0)) (fun _ => ⟨hsub_refl, fun _ h => h⟩) fun _ => ?_
          refine JA_pd (i := 7) rfl (by kernel_rfl) rfl rfl (det_assign rfl) ?_
          refine JA_done (by kernel_rfl) ?_
          refine JE_seq ?_
          refine JC_seq ?_
          refine JC_region ?_
          refine JL_pd rfl (det_move rfl) ?_
          refine JL_step rfl rfl rfl (jo_callv rfl rfl Tryz.call129 rfl (size_j _)) fun _ => ?_
          refine JL_pd rfl (det_move rfl) ?_
          -- stop: guard 2
          refine JL_split (d0 := 59) rfl (fun g1 => ?_) (fun g1 => ?_)
          · refine JL_guard rfl rfl g1 ?_
            refine JL_pd rfl (det_move rfl) ?_
            refine JL_guard rfl rfl g1 ?_
            refine JL_pd rfl (det_indexArr (i := f + 1) rfl rfl (by omega) (by have := inI_iff.1 g1; omega) Tryz.runUnderlying243 Tryz.sizeOf3) ?_
            refine JL_guard rfl rfl g1 ?_
            refine JL_dt rfl (det_loadK rfl Tryz.isAgg3 (by rw [Nat.zero_add]; exact hg (f + 1) (by have := inI_iff.1 g1; omega))) ?_
            refine JL_guard rfl rfl g1 ?_
            refine JL_pd rfl (det_gtr rfl rfl) ?_
            refine JL_pd rfl (det_pick_t rfl g1 rfl) ?_
            refine JL_nil ?_
            refine JE_seq ?_
            -- stop: cond
            have hfs : f + 1 < 10 := by have := inI_iff.1 g1; omega
            have hb2 := hbd (f + 1) hfs
            refine JC_if rfl (fun h5 => ?_) (fun h5 => ?_)
            · skip
              have hw : wearS E feet[ts[j]] = ((f + 1 : Nat) : Int) := by rw [wearS_next q1 (by omega) (by rw [hfn]; exact h5), hfn]; rfl
              have hE2 : leftA x.h.shoes (L.take (j + 1)) = E.set (f + 1) (shoe E ((f + 1 : Nat) : Int) - 1) := by rw [hsn, leftA_snoc, hE, left', hw, if_neg (by omega), Int.toNat_natCast]
              rw [show feet[ts[j]] + 1 = ((f + 1 : Nat) : Int) by omega]
              refine JC_seq ?_
              refine JC_region ?_
              refine JL_pd rfl (det_move rfl) ?_
              refine JL_pd rfl (det_indexArr (i := f + 1) rfl rfl (by omega) (by omega) Tryz.runUnderlying243 Tryz.sizeOf3) ?_
              refine JL_dt rfl (det_loadK rfl Tryz.isAgg3 (by rw [Nat.zero_add]; exact hg (f + 1) (by omega))) ?_
              refine JL_pd rfl (det_sub rfl rfl ⟨by omega, by omega⟩) ?_
              refine JL_pd rfl (det_indexArr (i := f + 1) rfl rfl (by omega) (by omega) Tryz.runUnderlying243 Tryz.sizeOf3) ?_
              refine JL_step0 rfl rfl (jo_store (cs' := (E.set (f + 1) (shoe E ((f + 1 : Nat) : Int) - 1)).flatMap encI) (vs := [I (shoe E ((f + 1 : Nat) : Int) - 1)]) rfl rfl rfl (by rw [Nat.zero_add]; exact splice_rec encI E (f + 1) (shoe E ((f + 1 : Nat) : Int) - 1) (by omega)) Tryz.sizeOf3 (Nat.ble_eq_true_of_le (by rw [flat_len, hEl]; simp; omega)) rfl) fun _ => ?_
              refine JL_nil ?_
              refine JE_seq ?_
              refine JC_seq ?_
              refine JC_region ?_
              refine JL_pd rfl (det_move rfl) ?_
              refine JL_pd rfl (det_move rfl) ?_
              refine JL_pd rfl (det_move rfl) ?_
              refine JL_pd rfl (det_indexOwn (i := ts[j]) rfl rfl (by first | rfl | omega) (by first | assumption | omega) Tryz.runUnderlying31 Tryz.sizeOf3) ?_
              refine JL_step0 rfl rfl (jo_storeO (xs' := (p.set ts[j] ((f + 1 : Nat) : Int)).flatMap encI) (vs := encI ((f + 1 : Nat) : Int)) rfl rfl rfl (splice_rec encI p ts[j] ((f + 1 : Nat) : Int) (by omega)) Tryz.sizeOf3 (by rw [flat_len, hpn]; simp [encI]; omega) rfl) fun _ => ?_
              refine JL_nil ?_
              refine JE_seq ?_
              refine JC_exit ?_
              refine JE_block_on rfl ?_
              refine JE_seq_exit ?_
              refine JE_then_exit ?_
              refine JE_block_on rfl ?_
              refine JE_block_here ?_
              refine JE_seq ?_
              refine JC_region ?_
              refine JL_pd rfl (det_add rfl rfl ⟨by omega, by omega⟩) ?_
              refine JL_pd rfl (det_move rfl) ?_
              refine JL_nil ?_
              -- stop: end
              refine JE_roundF hK (j + 1, p.set ts[j] ((greS x.h.shoes L).getD j 0)) ⟨by simp only; omega, hfl.set htd hj2 htn⟩ (by simp only; omega) (stsub_consI rfl (by simp only; omega) stsub_nil) (ht_ow rfl (by rw [hvj, hw]) (ht_bx (by rw [hE2]) ht_nil))
            · refine JC_skip ?_
              refine JE_block ?_
              refine JE_seq ?_
              refine JC_region ?_
              refine JL_pd rfl (det_add rfl rfl ⟨by omega, by omega⟩) ?_
              refine JL_pd rfl (det_move rfl) ?_
              refine JL_nil ?_
              -- stop: end
              refine JE_roundF hK' 2 ⟨by omega, fun _ => q1, fun _ q => h5 (by rw [hfn] at q; exact q.2)⟩ (by omega) (stsub_consI rfl rfl stsub_nil) ht_nil
          · refine JL_skip rfl rfl g1 rfl ?_
            refine JL_skip rfl rfl g1 rfl ?_
            refine JL_skip rfl rfl g1 rfl ?_
            refine JL_skip rfl rfl g1 rfl ?_
            refine JL_pd rfl (det_pick_f rfl g1 rfl) ?_
            refine JL_nil ?_
            refine JE_seq ?_
            -- stop: cond
            refine JC_cond rfl (fun h5 => ?_) (fun h5 => ?_)
            · cases h5
            refine JC_skip ?_
            refine JE_block ?_
            refine JE_seq ?_
            refine JC_region ?_
            refine JL_pd rfl (det_add rfl rfl ⟨by omega, by omega⟩) ?_
            refine JL_pd rfl (det_move rfl) ?_
            refine JL_nil ?_
            -- stop: end
            refine JE_roundF hK' 2 ⟨by omega, fun _ => q1, fun _ q => by rw [g1] at q; exact absurd q.1 (by decide)⟩ (by omega) (stsub_consI rfl rfl stsub_nil) ht_nil
      · obtain rfl : i = 2 := by omega
        have hw : wearS E feet[ts[j]] = -1 := wearS_none (q1 (by omega)) (q2 (by omega))
        have hE2 : leftA x.h.shoes (L.take (j + 1)) = E := by rw [hsn, leftA_snoc, hE, left', if_pos hw]
        refine JC_exit ?_
        refine JE_seq_exit ?_
        refine JE_then_exit ?_
        refine JE_block_here ?_
        refine JE_block ?_
        refine JE_seq ?_
        refine JC_region ?_
        refine JL_pd rfl (det_add rfl rfl ⟨by omega, by omega⟩) ?_
        refine JL_pd rfl (det_move rfl) ?_
        refine JL_nil ?_
        -- stop: end
        refine JE_roundF hK (j + 1, p) ⟨by simp only; omega, hfl.same hj2 (by rw [hvj, hw])⟩ (by simp only; omega) (stsub_consI rfl (by simp only; omega) stsub_nil) (ht_cons (ht_bx (by rw [hE2]) ht_nil))
    · obtain rfl : j = feet.length := by omega
      refine JC_exit ?_
      refine JE_seq_exit ?_
      refine JE_then_exit ?_
      refine JE_block_here ?_
      refine JE_seq ?_
      refine JC_seq ?_
      refine JC_region ?_
      refine JL_pd rfl (det_move rfl) ?_
      refine JL_pd rfl (det_assign rfl) ?_
      refine JL_nil ?_
      refine JE_seq ?_
      refine JC_ret ?_
      refine JE_scope_ret ?_
      -- stop: out
      have hso : FitOk x.h.shoes feet p := by
        refine fit_of (ord := ts) hts ?_ ?_
        · rw [List.pairwise_map]
          refine hto.imp fun {x y} hxy => ?_
          have := mt (cfF_lt feet y x).2 hxy
          omega
        · rw [hL, htl]; exact hfl
      refine JE_slice (enc := encI) (v := .slice (some ⟨b37, 0, none⟩) feet.length feet.length) p noFp rfl hfl.n.symm fun a2 cap2 e2 => ?_
      obtain rfl := (Value.slice.inj e2).1
      obtain rfl := (Value.slice.inj e2).2.2
      refine JE_out (.inl rfl) (b37, ⟨p, hso⟩) (results1 Tryz.results85 (res_tmp rfl)) rfl (List.Perm.refl _) (fun w h => h.1)
end Go.Proofs.YthpkgabckklojaaGreat.En

/- Walks of lend: Fit, Sizes. -/
namespace Go.Proofs.YthpkgabckklojaaGreat.En
open Go.RowKit Go.Shelf

theorem fit_same {sh feet ws ws' : List Int} (hn : sh.length = 10) (h0 : ∀ x ∈ sh, 0 ≤ x) (hf : ∀ f ∈ feet, 0 ≤ f ∧ f ≤ 9) (h : FitOk sh feet ws) (h' : FitOk sh feet ws') : bare ws = bare ws' := by
  have F := fit_facts hn h0 hf h
  have F' := fit_facts hn h0 hf h'
  have a1 := sizes_lack F hf (fun _ => Iff.rfl)
  have a2 := sizes_lack F' hf (fun _ => Iff.rfl)
  have b1 := lack_le F'.fit (roundsR (feet.zip ws) (baresL feet ws) 10)
  have b2 := lack_le F.fit (roundsR (feet.zip ws') (baresL feet ws') 10)
  rw [a1.1] at b1
  rw [a2.1] at b2
  omega
theorem Fit_je (x : Hx) (a : Option Addr) (c : Nat) (feet : List Int) (h : shodE x.h feet ≠ 0) : Cv Tryz.prog 34 [.agg #[I x.h.lanes, .slice x.a x.h.shoes.length x.c], .slice a feet.length c] (KAnd (KHx x) (KSl a feet.length c encI feet)) (.tuple #[.slice none 0 0, I (shodE x.h feet)]) := by
  refine Cx_of Tryz.func34 rfl Tryz.ntmps34 rfl fun w0 M0 => ?_
  refine JC_seq ?_
  refine JC_region ?_
  refine JL_step rfl rfl rfl (jo_box rfl rfl) fun b2 => ?_
  refine JL_pd rfl (det_assign rfl) ?_
  refine JL_pd rfl (det_assign rfl) ?_
  refine JL_nil ?_
  refine JE_seq ?_
  refine JC_seq ?_
  refine JC_seq ?_
  refine JC_region ?_
  refine JL_dt rfl (det_loadKA rfl Tryz.isAgg86 Tryz.sizeOf86 rfl rfl) ?_
  refine JL_pd rfl (det_move rfl) ?_
  refine JL_step rfl rfl rfl (jo_callv rfl rfl Tryz.call84 rfl (shod_j x a c feet)) fun _ => ?_
  refine JL_pd rfl (det_assign rfl) ?_
  refine JL_nil ?_
  refine JE_seq ?_
  refine JC_seq ?_
  refine JC_region ?_
  refine JL_pd rfl (det_move rfl) ?_
  refine JL_pd rfl (det_neq rfl rfl) ?_
  refine JL_nil ?_
  refine JE_seq ?_
  -- stop: cond
  refine JC_ifn rfl (fun h1 => ?_) (fun h1 => ?_)
  · refine JC_seq ?_
    refine JC_region ?_
    refine JL_pd rfl (det_move rfl) ?_
    refine JL_pd rfl (det_assign rfl) ?_
    refine JL_pd rfl (det_assign rfl) ?_
    refine JL_nil ?_
    refine JE_seq ?_
    refine JC_ret ?_
    refine JE_seq_ret ?_
    -- stop: out
    refine JE_out (.inl rfl) () (results2 Tryz.results34 (res_tmp rfl) (res_tmp rfl)) rfl (List.Perm.refl _) (fun _ _ => trivial)
  · exact absurd h1 h
theorem Fit_jo (x : Hx) (a : Option Addr) (c : Nat) (feet : List Int) (h : shodE x.h feet = 0) : Cr Tryz.prog 34 [.agg #[I x.h.lanes, .slice x.a x.h.shoes.length x.c], .slice a feet.length c] (KAnd (KHx x) (KSl a feet.length c encI feet)) (fun q : Nat × { p : List Int // FitOk x.h.shoes feet p } => .tuple #[.slice (some ⟨q.1, 0, none⟩) feet.length feet.length, I 0])
    (fun q => KSl (some ⟨q.1, 0, none⟩) feet.length feet.length encI q.2.1) := by
  have V := vfeet_of h
  have hsh := shod_j x a c feet
  rw [h] at hsh
  refine Cx_of Tryz.func34 rfl Tryz.ntmps34 rfl fun w0 M0 => ?_
  refine JC_seq ?_
  refine JC_region ?_
  refine JL_step rfl rfl rfl (jo_box rfl rfl) fun b2 => ?_
  refine JL_pd rfl (det_assign rfl) ?_
  refine JL_pd rfl (det_assign rfl) ?_
  refine JL_nil ?_
  refine JE_seq ?_
  refine JC_seq ?_
  refine JC_seq ?_
  refine JC_region ?_
  refine JL_dt rfl (det_loadKA rfl Tryz.isAgg86 Tryz.sizeOf86 rfl rfl) ?_
  refine JL_pd rfl (det_move rfl) ?_
  refine JL_step rfl rfl rfl (jo_callv rfl rfl Tryz.call84 rfl (hsh)) fun _ => ?_
  refine JL_pd rfl (det_assign rfl) ?_
  refine JL_nil ?_
  refine JE_seq ?_
  refine JC_seq ?_
  refine JC_region ?_
  refine JL_pd rfl (det_move rfl) ?_
  refine JL_pd rfl (det_neq rfl rfl) ?_
  refine JL_nil ?_
  refine JE_seq ?_
  -- stop: cond
  refine JC_ifn rfl (fun h1 => ?_) (fun h1 => ?_)
  · exact absurd rfl h1
  · refine JC_skip ?_
    refine JE_seq ?_
    refine JC_seq ?_
    refine JC_region ?_
    refine JL_dt rfl (det_loadKA rfl Tryz.isAgg86 Tryz.sizeOf86 rfl rfl) ?_
    refine JL_pd rfl (det_move rfl) ?_
    refine JL_step rfl rfl rfl (jo_call rfl rfl Tryz.call85 rfl (fit_jo x a c feet V.hs (by have := V.n; omega) V.ft)) fun x15 => ?_
    refine JL_pd rfl (det_assign rfl) ?_
    refine JL_pd rfl (det_assign rfl) ?_
    refine JL_nil ?_
    refine JE_seq ?_
    refine JC_ret ?_
    -- stop: out
    refine JE_out (.inl rfl) x15 (results2 Tryz.results34 (res_tmp rfl) (res_tmp rfl)) rfl (List.Perm.refl _) (fun w h => h.1)
/-- Some numbers, as a map that has them. -/
def inM (S : List Int) : Int → Option Bool := fun k => if k ∈ S then some true else none
theorem inM_add (S : List Int) (f : Int) : upd (inM S) f true = inM (f :: S) := by
  funext k
  unfold upd inM
  by_cases e : k = f
  · subst e; simp
  · simp [e]
theorem inM_get (S : List Int) (k : Int) : (inM S k).getD false = decide (k ∈ S) := by
  unfold inM
  by_cases e : k ∈ S
  · rw [if_pos e, decide_eq_true e]; rfl
  · rw [if_neg e, decide_eq_false e]; rfl
section
variable {X : Ctx} {P : Program} {st : Sto} {H : List Chunk} {R : World → Prop} {d : Option Nat} {ty : TypeId} {pos : String} {af : Array Edge} {g : Option (Nat × Bool)}
theorem det_lookupI {x y : Operand} {t K E : TypeId} {b : Nat} {S : List Int} (key : Int) (hx : opnd st x = some (.map (some b))) [hb : MapAt H b Int Bool ekI vB (inM S)] (hy : opnd st y = some (I key))
    (G : GoodKey P K ekI) (hT : P.underlying t = some (.map K E)) (hz : ∀ w, (zeroValue E).run P w = .ok (.bool false) w) : Det X P ⟨d, .lookup t x y false, ty, pos, af, g⟩ st H R (.bool (decide (key ∈ S))) := by
  have := det_lookup1B (X := X) (P := P) (H := H) (R := R) (d := d) (ty := ty) (pos := pos) (af := af) (g := g) key hx hy G hT hz
  rwa [inM_get] at this
end
/-- Who has none. -/
def barF (S : List Int) (z : Int × Int) : List Int := if z.2 = -1 then z.1 :: S else S
theorem mem_barF (zs : List (Int × Int)) (x : Int) : ∀ S : List Int, x ∈ zs.foldl barF S ↔ x ∈ S ∨ x ∈ (zs.filter fun z => decide (z.2 = -1)).map (·.1) := by
  induction zs with
  | nil => intro S; simp
  | cons z r ih =>
    intro S
    rw [List.foldl_cons, ih]
    unfold barF
    by_cases e : z.2 = -1
    · rw [if_pos e, List.filter_cons_of_pos (by simpa using e), List.map_cons, List.mem_cons, List.mem_cons]
      constructor
      · rintro ((h | h) | h)
        · exact .inr (.inl h)
        · exact .inl h
        · exact .inr (.inr h)
      · rintro (h | h | h)
        · exact .inl (.inr h)
        · exact .inl (.inl h)
        · exact .inr h
    · rw [if_neg e, List.filter_cons_of_neg (by simpa using e)]
/-- The sizes among some numbers. -/
def szs (S : List Int) : Nat → List Int
  | 0 => []
  | n + 1 => szs S n ++ if (n : Int) ∈ S then [(n : Int)] else []
theorem mem_szs {S : List Int} {x : Int} : ∀ {n : Nat}, x ∈ szs S n ↔ 0 ≤ x ∧ x < n ∧ x ∈ S
  | 0 => by simp [szs]; omega
  | n + 1 => by
    unfold szs
    rw [List.mem_append, mem_szs]
    constructor
    · rintro (⟨h1, h2, h3⟩ | h)
      · exact ⟨h1, by omega, h3⟩
      · split at h
        · rename_i e
          rw [List.mem_singleton] at h
          subst h
          exact ⟨by omega, by omega, e⟩
        · cases h
    · rintro ⟨h1, h2, h3⟩
      by_cases e : x = (n : Int)
      · subst e; right; rw [if_pos h3]; simp
      · left; exact ⟨h1, by omega, h3⟩
theorem szs_up (S : List Int) : ∀ n : Nat, (szs S n).Pairwise (· < ·)
  | 0 => .nil
  | n + 1 => by
    unfold szs
    refine List.pairwise_append.2 ⟨szs_up S n, by split <;> simp, fun a ha b hb => ?_⟩
    have := (mem_szs.1 ha).2.1
    split at hb
    · rw [List.mem_singleton] at hb; omega
    · cases hb
theorem szs_len (S : List Int) : ∀ n : Nat, (szs S n).length ≤ n
  | 0 => Nat.le_refl _
  | n + 1 => by
    unfold szs
    rw [List.length_append]
    have := szs_len S n
    split <;> simp <;> omega
theorem szs_ris (S : List Int) : risB (fun n => inI n 0 9) (szs S 10) = true := by
  unfold risB
  rw [Bool.and_eq_true, decide_eq_true_eq, List.all_eq_true]
  exact ⟨fun x hx => inI_iff.2 (by have := mem_szs.1 hx; omega), szs_up S 10⟩
def SizesOk (sh feet S : List Int) : Prop := risB (fun n => inI n 0 9) S = true ∧ ∃ ws, FitOk sh feet ws ∧ lack sh feet S = (bare ws : Nat)
theorem sizes_of {sh feet ws : List Int} (hn : sh.length = 10) (h0 : ∀ x ∈ sh, 0 ≤ x) (hf : ∀ f ∈ feet, 0 ≤ f ∧ f ≤ 9) (h : FitOk sh feet ws) : SizesOk sh feet (szs (roundsR (feet.zip ws) ((feet.zip ws).foldl barF []) 10) 10) := by
  have F := fit_facts hn h0 hf h
  have hs := sizes_lack F hf (S := (feet.zip ws).foldl barF []) (fun x => by rw [mem_barF]; simp [baresL])
  refine ⟨szs_ris _, ws, h, ?_⟩
  rw [← hs.1]
  refine lack_congr (fun x h1 h2 => by rw [mem_szs]; exact ⟨fun q => q.2.2, fun q => ⟨h1, by omega, q⟩⟩) ⟨fun q => ?_, fun q => ?_⟩ hf
  · have := (mem_szs.1 q).1; omega
  · have := (hs.2 _ q).1; omega
theorem szs_snoc_in {S : List Int} {i : Nat} (h : (i : Int) ∈ S) : szs S (i + 1) = szs S i ++ [(i : Int)] := by
  show szs S i ++ (if (i : Int) ∈ S then [(i : Int)] else []) = _
  rw [if_pos h]
theorem szs_snoc_no {S : List Int} {i : Nat} (h : ¬ (i : Int) ∈ S) : szs S (i + 1) = szs S i := by
  show szs S i ++ (if (i : Int) ∈ S then [(i : Int)] else []) = _
  rw [if_neg h, List.append_nil]
theorem foldl_snoc {α β : Type} (f : β → α → β) (b : β) (l : List α) (i : Nat) (h : i < l.length) : (l.take (i + 1)).foldl f b = f ((l.take i).foldl f b) l[i] := by
  rw [take_snoc h, List.foldl_append]; rfl
end Go.Proofs.YthpkgabckklojaaGreat.En

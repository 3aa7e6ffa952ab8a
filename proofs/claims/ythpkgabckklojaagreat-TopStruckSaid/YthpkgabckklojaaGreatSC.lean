/- Own texts, laid together: X1 X2 X3 X4 Open X5 X6 X7. Nothing is asked. -/
import Derived.Test.YthpkgabckklojaaGreatSB
import Derived.Test.YthpkgabckklojaaGreatSA
import Derived.Test.YthpkgabckklojaaGreatRows
import Derived.Test.YthpkgabckklojaaGreatS2
import Derived.WalkKit
import Derived.ProofKit
import Derived.OpenShut
import Derived.ShutString
import Derived.ChangeOld
import Derived.Deep.Slices
import Derived.Lib.SmallJoins
import Derived.Test.YthpkgabckklojaaGreatS4
import Derived.Laws.OwnMore
set_option linter.unusedSimpArgs false
set_option linter.unusedVariables false
/- Walks of the statements about path: Lane. -/
namespace Go.Proofs.YthpkgabckklojaaGreat
open Go.RowKit Go.Shelf

theorem take_snoc {α : Type} {l : List α} {i : Nat} (h : i < l.length) : l.take (i + 1) = l.take i ++ [l[i]] := by
  rw [List.take_add_one, List.getElem?_eq_getElem h]; rfl
set_option maxRecDepth 100000 in
theorem lLane_j (l : La) (ha pa : Option Addr) (hc pc : Nat) (hl : l.hooks.length ≤ 1000000) (pl : l.patches.length ≤ 1000000) : Cr Tryz.prog 13 [.agg #[I l.boards, I l.rows, .slice ha l.hooks.length hc, .slice pa l.patches.length pc]] (KLane l ha hc pa pc) (fun q : (Option Addr × Nat) × Option Addr × Nat => .agg #[I l.boards, I l.rows, .slice q.1.1 l.hooks.length q.1.2, .slice q.2.1 l.patches.length q.2.2])
    (fun q => KLane l q.1.1 q.1.2 q.2.1 q.2.2) := by
  refine Cx_of Tryz.func13 rfl Tryz.ntmps13 rfl fun w0 M0 => ?_
  refine JC_seq ?_
  refine JC_region ?_
  refine JL_step rfl rfl rfl (jo_box rfl rfl) fun b1 => ?_
  refine JL_step rfl rfl rfl (jo_alloc0 Tryz.zeroValue47 rfl) fun b2 => ?_
  refine JL_nil ?_
  refine JE_seq ?_
  refine JC_seq ?_
  refine JC_region ?_
  refine JL_pd rfl (det_fieldAddr rfl fo_25_0) ?_
  refine JL_dt rfl (det_loadK rfl Tryz.isAgg3 rfl) ?_
  refine JL_pd rfl (det_fieldAddr rfl fo_25_1) ?_
  refine JL_dt rfl (det_loadK rfl Tryz.isAgg3 rfl) ?_
  refine JL_pd rfl (det_build rfl (bld_47_0_1 _ _)) ?_
  refine JL_step rfl rfl rfl (jo_alloc0 Tryz.zeroValue47 rfl) fun b3 => ?_
  refine JL_step0 rfl rfl (jo_store rfl rfl rfl (by first | (simp only [splice_norm]; done) | (simp only [splice_norm]; rfl) | rfl) Tryz.sizeOf47 rfl rfl) fun _ => ?_
  refine JL_nil ?_
  refine JE_seq ?_
  refine JC_seq ?_
  refine JC_seq ?_
  refine JC_region ?_
  refine JL_pd rfl (det_assign rfl) ?_
  refine JL_nil ?_
  refine JE_seq ?_
  refine JC_block ?_
  -- stop: loop
  refine JC_nil 112 2 ?_
  refine JC_loop (γ := Nat × Value) (I := fun q => q.1 ≤ l.hooks.length)
    (st' := fun q => [(4, I q.1), (3, pt b3), (2, pt b2), (1, pt b1)]) (H' := fun q => [ow q.2 112 2 q.1 ((l.hooks.take q.1).flatMap encRg), bx b3 [I l.boards, I l.rows, q.2, .slice none 0 0], bx b2 [I 0, I 0, .slice none 0 0, .slice none 0 0], bx b1 [I l.boards, I l.rows, .slice ha l.hooks.length hc, .slice pa l.patches.length pc]])
    (R' := fun _ => KLane l ha hc pa pc) (μ := fun q => l.hooks.length - q.1) (0, .slice none 0 0) (by simp) (stsub_cons rfl (stsub_cons rfl (stsub_cons rfl (stsub_cons rfl stsub_nil)))) (show HSub _ [ow (.slice none 0 0) 112 2 0 [], bx b3 _, bx b2 _, bx b1 _] from hsub_cons (hsub_cons (hsub_cons (hsub_cons hsub_nil)))) (Knows.know) ?_
  rintro ⟨i, v⟩ hi K hK
  dsimp only at hi ⊢
  refine JC_seq ?_
  refine JC_seq ?_
  refine JC_region ?_
  refine JL_pd rfl (det_move rfl) ?_
  refine JL_pd rfl (det_fieldAddr rfl fo_25_2) ?_
  refine JL_dt rfl (det_loadK rfl Tryz.isAgg22 rfl) ?_
  refine JL_pd rfl (det_len rfl Tryz.runUnderlying22) ?_
  refine JL_pd rfl (det_lss rfl rfl) ?_
  refine JL_nil ?_
  refine JE_seq ?_
  -- stop: cond
  refine JC_if rfl (fun h1 => ?_) (fun h1 => ?_)
  · refine JC_skip ?_
    refine JE_seq ?_
    refine JC_seq ?_
    refine JC_block ?_
    refine JC_draw [9, 11] (by kernel_rfl) ?_
    refine JA_pd (i := 0) rfl (by kernel_rfl) rfl rfl (det_fieldAddr rfl fo_47_2) ?_
    refine JA_dt (i := 1) rfl (by kernel_rfl) (by kernel_rfl) rfl rfl (det_loadK rfl Tryz.isAgg44 rfl) ?_
    refine JA_pd (i := 2) rfl (by kernel_rfl) rfl rfl (det_fieldAddr rfl fo_25_2) ?_
    refine JA_dt (i := 3) rfl (by kernel_rfl) (by kernel_rfl) rfl rfl (det_loadK rfl Tryz.isAgg22 rfl) ?_
    refine JA_pd (i := 4) rfl (by kernel_rfl) rfl rfl (det_move rfl) ?_
    refine JA_dt (i := 5) rfl (by kernel_rfl) (by kernel_rfl) rfl rfl (det_indexAddr rfl rfl (by first | rfl | omega) (by first | assumption | omega | decide) Tryz.runUnderlying22 Tryz.sizeOf107) ?_
    refine JA_dt (i := 6) rfl (by kernel_rfl) (by kernel_rfl) rfl rfl (det_loadEA rfl (by first | assumption | omega | decide) Tryz.isAgg107 Tryz.sizeOf107 rfl rfl rfl) ?_
    -- stop: op  7 t26 := (call (Call (value f49) (t25) (107)))   <6>   25
    have hi2 : i < l.hooks.length := by omega
    refine JA_one (i := 7) (by kernel_rfl) rfl rfl (jo_callv rfl rfl Tryz.call49 rfl (lTo_j l.hooks[i])) (fun _ => ⟨hsub_refl, fun _ h => h⟩) fun _ => ?_
    refine JA_one (i := 8) (by kernel_rfl) rfl rfl (jo_buildSlice rfl (bsl_44_1_0 _ _)) (fun _ => ⟨hsub_drop 1 rfl, fun _ h => h⟩) fun b27 => ?_
    refine JA_tail (i := 9) (by kernel_rfl) rfl rfl rfl rfl (jo_append el_44 rfl rfl rfl rfl (by omega)) fun b28 => ?_
    refine JT_pd (i := 10) rfl (by kernel_rfl) rfl rfl (det_fieldAddr rfl fo_47_2) ?_
    refine JT_one (i := 11) (by kernel_rfl) rfl rfl (jo_store rfl rfl rfl (by first | (simp only [splice_norm]; done) | (simp only [splice_norm]; rfl) | rfl) Tryz.sizeOf44 rfl rfl) fun _ => ?_
    refine JT_done (by kernel_rfl) ?_
    refine JE_block ?_
    refine JE_seq ?_
    refine JC_region ?_
    refine JL_pd rfl (det_move rfl) ?_
    refine JL_pd rfl (det_add rfl rfl ⟨by omega, by omega⟩) ?_
    refine JL_pd rfl (det_assign rfl) ?_
    refine JL_nil ?_
    -- stop: end
    refine JE_round hK (i + 1, .slice (some ⟨b28.1, 0, none⟩) (i + 1) b28.2) (by simp only; omega) (by simp only; omega) ?_ ?_ Knows.know
    · exact stsub_consI rfl (by omega) (stsub_cons rfl (stsub_cons rfl (stsub_cons rfl stsub_nil)))
    · exact hsub_ow rfl (by simp only [take_snoc hi2, List.flatMap_append, List.flatMap_cons, List.flatMap_nil, encRg, List.append_nil]) (hsub_cons (hsub_cons (hsub_cons hsub_nil)))
  · refine JC_exit ?_
    refine JE_seq_exit ?_
    refine JE_then_exit ?_
    refine JE_block_here ?_
    refine JE_seq ?_
    refine JC_seq ?_
    refine JC_seq ?_
    refine JC_region ?_
    refine JL_pd rfl (det_assign rfl) ?_
    refine JL_nil ?_
    refine JE_seq ?_
    refine JC_block ?_
    -- stop: loop
    obtain rfl : i = l.hooks.length := by omega
    refine JC_nil 124 5 ?_
    refine JC_loop (γ := Nat × Value) (I := fun q => q.1 ≤ l.patches.length)
      (st' := fun q => [(5, I q.1), (3, pt b3), (2, pt b2), (1, pt b1)]) (H' := fun q => [ow q.2 124 5 q.1 ((l.patches.take q.1).flatMap encPa), ow v 112 2 l.hooks.length (l.hooks.flatMap encRg), bx b3 [I l.boards, I l.rows, v, q.2], bx b2 [I 0, I 0, .slice none 0 0, .slice none 0 0], bx b1 [I l.boards, I l.rows, .slice ha l.hooks.length hc, .slice pa l.patches.length pc]])
      (R' := fun _ => KLane l ha hc pa pc) (μ := fun q => l.patches.length - q.1) (0, .slice none 0 0) (by simp) (stsub_cons rfl (stsub_cons rfl (stsub_cons rfl (stsub_cons rfl stsub_nil)))) (show HSub _ [ow (.slice none 0 0) 124 5 0 [], ow _ _ _ _ _, bx b3 _, bx b2 _, bx b1 _] from hsub_cons (hsub_ow rfl (by rw [List.take_length]) (hsub_cons (hsub_cons (hsub_cons hsub_nil))))) (Knows.know) ?_
    rintro ⟨j, u⟩ hj K2 hK2
    dsimp only at hj ⊢
    refine JC_seq ?_
    refine JC_seq ?_
    refine JC_region ?_
    refine JL_pd rfl (det_move rfl) ?_
    refine JL_pd rfl (det_fieldAddr rfl fo_25_3) ?_
    refine JL_dt rfl (det_loadK rfl Tryz.isAgg23 rfl) ?_
    refine JL_pd rfl (det_len rfl Tryz.runUnderlying23) ?_
    refine JL_pd rfl (det_lss rfl rfl) ?_
    refine JL_nil ?_
    refine JE_seq ?_
    -- stop: cond
    refine JC_if rfl (fun h2 => ?_) (fun h2 => ?_)
    · refine JC_skip ?_
      refine JE_seq ?_
      refine JC_seq ?_
      refine JC_block ?_
      refine JC_seq ?_
      refine JC_region ?_
      refine JL_pd rfl (det_fieldAddr rfl fo_25_3) ?_
      refine JL_dt rfl (det_loadK rfl Tryz.isAgg23 rfl) ?_
      refine JL_pd rfl (det_move rfl) ?_
      refine JL_dt rfl (det_indexAddr rfl rfl (by first | rfl | omega) (by first | assumption | omega | decide) Tryz.runUnderlying23 Tryz.sizeOf109) ?_
      refine JL_dt rfl (det_loadEA rfl (by first | assumption | omega | decide) Tryz.isAgg109 Tryz.sizeOf109 rfl rfl rfl) ?_
      refine JL_step rfl rfl rfl (jo_alloc0 Tryz.zeroValue109 rfl) fun b6 => ?_
      refine JL_step0 rfl rfl (jo_store rfl rfl rfl (by first | (simp only [splice_norm]; done) | (simp only [splice_norm]; rfl) | rfl) Tryz.sizeOf109 rfl rfl) fun _ => ?_
      refine JL_nil ?_
      refine JE_seq ?_
      refine JC_draw [12, 14] (by kernel_rfl) ?_
      refine JA_pd (i := 0) rfl (by kernel_rfl) rfl rfl (det_fieldAddr rfl fo_47_3) ?_
      refine JA_dt (i := 1) rfl (by kernel_rfl) (by kernel_rfl) rfl rfl (det_loadK rfl Tryz.isAgg45 rfl) ?_
      refine JA_pd (i := 2) rfl (by kernel_rfl) rfl rfl (det_fieldAddr rfl fo_109_0) ?_
      refine JA_dt (i := 3) rfl (by kernel_rfl) (by kernel_rfl) rfl rfl (det_loadKA rfl Tryz.isAgg107 Tryz.sizeOf107 rfl rfl) ?_
      refine JA_pd (i := 5) rfl (by kernel_rfl) rfl rfl (det_fieldAddr rfl fo_109_1) ?_
      refine JA_dt (i := 6) rfl (by kernel_rfl) (by kernel_rfl) rfl rfl (det_loadKA rfl Tryz.isAgg107 Tryz.sizeOf107 rfl rfl) ?_
      refine JA_pd (i := 8) rfl (by kernel_rfl) rfl rfl (det_fieldAddr rfl fo_109_2) ?_
      refine JA_dt (i := 9) rfl (by kernel_rfl) (by kernel_rfl) rfl rfl (det_loadK rfl Tryz.isAgg3 rfl) ?_
      -- stop: op  4 t46 := (call (Call (value f49) (t45) (107)))   <3>   29
      have hj2 : j < l.patches.length := by omega
      refine JA_one (i := 4) (by kernel_rfl) rfl rfl (jo_callv rfl rfl Tryz.call49 rfl (lTo_j l.patches[j].rows)) (fun _ => ⟨hsub_refl, fun _ h => h⟩) fun _ => ?_
      -- stop: op  7 t49 := (call (Call (value f49) (t48) (107)))   <6 4>   29
      refine JA_one (i := 7) (by kernel_rfl) rfl rfl (jo_callv rfl rfl Tryz.call49 rfl (lTo_j l.patches[j].boards)) (fun _ => ⟨hsub_refl, fun _ h => h⟩) fun _ => ?_
      refine JA_pd (i := 10) rfl (by kernel_rfl) rfl rfl (det_build rfl (bld_124_0_1_2 _ _ _ _ _)) ?_
      refine JA_one (i := 11) (by kernel_rfl) rfl rfl (jo_buildSlice rfl (bsl_45_1_0 _ _ _ _ _)) (fun _ => ⟨hsub_drop 1 rfl, fun _ h => h⟩) fun b53 => ?_
      refine JA_tail (i := 12) (by kernel_rfl) rfl rfl rfl rfl (jo_append el_45 rfl rfl rfl rfl (by omega)) fun b54 => ?_
      refine JT_pd (i := 13) rfl (by kernel_rfl) rfl rfl (det_fieldAddr rfl fo_47_3) ?_
      refine JT_one (i := 14) (by kernel_rfl) rfl rfl (jo_store rfl rfl rfl (by first | (simp only [splice_norm]; done) | (simp only [splice_norm]; rfl) | rfl) Tryz.sizeOf45 rfl rfl) fun _ => ?_
      refine JT_done (by kernel_rfl) ?_
      refine JE_block ?_
      refine JE_seq ?_
      refine JC_region ?_
      refine JL_pd rfl (det_move rfl) ?_
      refine JL_pd rfl (det_add rfl rfl ⟨by omega, by omega⟩) ?_
      refine JL_pd rfl (det_assign rfl) ?_
      refine JL_nil ?_
      -- stop: end
      refine JE_round hK2 (j + 1, .slice (some ⟨b54.1, 0, none⟩) (j + 1) b54.2) (by simp only; omega) (by simp only; omega) ?_ ?_ Knows.know
      · exact stsub_consI rfl (by omega) (stsub_cons rfl (stsub_cons rfl (stsub_cons rfl stsub_nil)))
      · exact hsub_ow rfl (by simp only [take_snoc hj2, List.flatMap_append, List.flatMap_cons, List.flatMap_nil, encPa, List.append_nil]) (hsub_cons (hsub_cons (hsub_cons (hsub_cons hsub_nil))))
    · obtain rfl : j = l.patches.length := by omega
      refine JC_slice (enc := encRg) (v := v) l.hooks noFp rfl rfl ?_
      rintro a cap rfl
      refine JC_slice (enc := encPa) (v := u) l.patches noFp (by rw [List.take_length]) rfl ?_
      rintro a2 cap2 rfl
      refine JC_exit ?_
      refine JE_seq_exit ?_
      refine JE_then_exit ?_
      refine JE_block_here ?_
      refine JE_seq ?_
      refine JC_seq ?_
      refine JC_region ?_
      refine JL_dt rfl (det_loadKA rfl Tryz.isAgg47 Tryz.sizeOf47 rfl rfl) ?_
      refine JL_step0 rfl rfl (jo_store rfl rfl rfl (by first | (simp only [splice_norm]; done) | (simp only [splice_norm]; rfl) | rfl) Tryz.sizeOf47 rfl rfl) fun _ => ?_
      refine JL_nil ?_
      refine JE_seq ?_
      refine JC_ret ?_
      -- stop: out
      refine JE_out (.inl rfl) ((a, cap), a2, cap2) (results1 Tryz.results13 (res_box rfl Tryz.isAgg47 Tryz.sizeOf47 rfl)) rfl (List.Perm.refl _) (fun w h => ⟨h.2.1, h.1⟩)
end Go.Proofs.YthpkgabckklojaaGreat

/- Walks of the statements about path: has, every, oiled; of the reference: Hook. -/
namespace Go.Proofs.YthpkgabckklojaaGreat
open Go.RowKit Go.Shelf

theorem KSl_of_box {α : Type} {enc : α → List Value} {xs : List α} {b n : Nat} {cs : List Value} {w : World} (hc : cs = xs.flatMap enc) (hn : n = xs.length) (hm : n ≤ maxLen) (h : Box w b cs) : KSl (some ⟨b, 0, none⟩) n n enc xs w := by
  subst hc
  refine ⟨⟨Nat.le_refl _, hm, fun h => (by cases h), fun _ => ⟨b, 0, rfl, h.lt, fun i c hi => ?_⟩⟩, hn⟩
  have := h.cell i hi
  simpa using this
def everyB (xs ys : List St) : Bool := xs.all fun x => decide (x ∈ ys)
def oiledL : La := ⟨20, 5, [⟨-1, -1⟩, ⟨-1, 0⟩], [⟨⟨0, 0⟩, ⟨1, 20⟩, 1⟩]⟩
set_option maxRecDepth 100000 in
theorem rHook_j (l : La) (row board : Int) (ha pa : Option Addr) (hc pc : Nat) (V : Valid l) : Cv Tryz.prog 50 [.agg #[I l.boards, I l.rows, .slice ha l.hooks.length hc, .slice pa l.patches.length pc], I row, I board] (KLane l ha hc pa pc) (.agg #[I (hookOf l row board).lo, I (hookOf l row board).hi]) := by
  have v1 := V.np
  have v2 := V.nh
  have v3 := V.h0
  have lv := levelOf_bd V row board
  refine Cx_of Tryz.func50 rfl Tryz.ntmps50 rfl fun w0 M0 => ?_
  refine JC_seq ?_
  refine JC_region ?_
  refine JL_step rfl rfl rfl (jo_box rfl rfl) fun b3 => ?_
  refine JL_step rfl rfl rfl (jo_alloc0 Tryz.zeroValue107 rfl) fun b6 => ?_
  refine JL_nil ?_
  refine JE_seq ?_
  refine JC_seq ?_
  refine JC_region ?_
  refine JL_pd rfl (det_assign rfl) ?_
  refine JL_nil ?_
  refine JE_seq ?_
  refine JC_seq ?_
  refine JC_seq ?_
  refine JC_region ?_
  refine JL_pd rfl (det_assign rfl) ?_
  refine JL_nil ?_
  refine JE_seq ?_
  refine JC_block ?_
  -- stop: loop
  refine JC_loop (γ := Nat) (I := fun i => i ≤ l.patches.length) (st' := fun i => [(8, I i), (7, I (levelOf (l.patches.take i) row board)), (6, pt b6), (3, pt b3), (2, I board), (1, I row)]) (H' := fun _ => [bx b6 [I 0, I 0], bx b3 [I l.boards, I l.rows, .slice ha l.hooks.length hc, .slice pa l.patches.length pc]])
    (R' := fun _ => KLane l ha hc pa pc) (μ := fun i => l.patches.length - i) 0 (by omega) (stsub_cons rfl (stsub_cons rfl (stsub_cons rfl (stsub_cons rfl (stsub_cons rfl (stsub_cons rfl stsub_nil)))))) (hsub_cons (hsub_cons hsub_nil)) Knows.know ?_
  intro i hi K hK
  refine JC_seq ?_
  refine JC_seq ?_
  refine JC_region ?_
  refine JL_pd rfl (det_move rfl) ?_
  refine JL_pd rfl (det_fieldAddr rfl fo_25_3) ?_
  refine JL_dt rfl (det_loadK rfl Tryz.isAgg23 rfl) ?_
  refine JL_pd rfl (det_len rfl Tryz.runUnderlying23) ?_
  refine JL_pd rfl (det_lss rfl rfl) ?_
  refine JL_nil ?_
  refine JE_seq ?_
  -- stop: cond
  refine JC_if rfl (fun h1 => ?_) (fun h1 => ?_)
  · refine JC_skip ?_
    refine JE_seq ?_
    refine JC_seq ?_
    refine JC_block ?_
    refine JC_seq ?_
    refine JC_region ?_
    refine JL_pd rfl (det_fieldAddr rfl fo_25_3) ?_
    refine JL_dt rfl (det_loadK rfl Tryz.isAgg23 rfl) ?_
    refine JL_pd rfl (det_move rfl) ?_
    refine JL_dt rfl (det_indexAddr rfl rfl (by first | rfl | omega) (by first | assumption | omega | decide) Tryz.runUnderlying23 Tryz.sizeOf109) ?_
    refine JL_dt rfl (det_loadEA rfl (by first | assumption | omega | decide) Tryz.isAgg109 Tryz.sizeOf109 rfl rfl rfl) ?_
    refine JL_step rfl rfl rfl (jo_alloc0 Tryz.zeroValue109 rfl) fun b9 => ?_
    refine JL_step0 rfl rfl (jo_store rfl rfl rfl (by first | (simp only [splice_norm]; done) | (simp only [splice_norm]; rfl) | rfl) Tryz.sizeOf109 rfl rfl) fun _ => ?_
    refine JL_nil ?_
    refine JE_seq ?_
    refine JC_seq ?_
    refine JC_region ?_
    refine JL_pd rfl (det_move rfl) ?_
    refine JL_pd rfl (det_fieldAddr rfl fo_109_0) ?_
    refine JL_pd rfl (det_fieldAddr rfl fo_107_0) ?_
    refine JL_dt rfl (det_loadK rfl Tryz.isAgg3 rfl) ?_
    refine JL_pd rfl (det_fieldAddr rfl fo_109_0) ?_
    refine JL_pd rfl (det_fieldAddr rfl fo_107_1) ?_
    refine JL_dt rfl (det_loadK rfl Tryz.isAgg3 rfl) ?_
    -- stop: op  7 t29 := (call (Call (value f40) (t22 t25 t28) (3 3 3)))   <0 3 6>   62
    have hi2 : i < l.patches.length := by omega
    have hsn := levelOf_snoc (l.patches.take i) l.patches[i] row board
    rw [← take_snoc hi2] at hsn
    refine JL_step rfl rfl rfl (jo_callv rfl rfl Tryz.call40 rfl (rIn_j row l.patches[i].rows.lo l.patches[i].rows.hi)) fun _ => ?_
    refine JL_pd rfl (det_move rfl) ?_
    -- stop: guard 8
    refine JL_split (d0 := 30) rfl (fun h2 => ?_) (fun h2 => ?_)
    · refine JL_guard rfl rfl h2 ?_
      refine JL_pd rfl (det_move rfl) ?_
      refine JL_guard rfl rfl h2 ?_
      refine JL_pd rfl (det_fieldAddr rfl fo_109_1) ?_
      refine JL_guard rfl rfl h2 ?_
      refine JL_pd rfl (det_fieldAddr rfl fo_107_0) ?_
      refine JL_guard rfl rfl h2 ?_
      refine JL_dt rfl (det_loadK rfl Tryz.isAgg3 rfl) ?_
      refine JL_guard rfl rfl h2 ?_
      refine JL_pd rfl (det_fieldAddr rfl fo_109_1) ?_
      refine JL_guard rfl rfl h2 ?_
      refine JL_pd rfl (det_fieldAddr rfl fo_107_1) ?_
      refine JL_guard rfl rfl h2 ?_
      refine JL_dt rfl (det_loadK rfl Tryz.isAgg3 rfl) ?_
      refine JL_guard rfl rfl h2 ?_
      -- stop: op 16 t38 := (call (Call (value f40) (t31 t34 t37) (3 3 3)))   <9 12 15 8 8>   62
      refine JL_step rfl rfl rfl (jo_callv rfl rfl Tryz.call40 rfl (rIn_j board l.patches[i].boards.lo l.patches[i].boards.hi)) fun _ => ?_
      refine JL_pd rfl (det_pick_t rfl h2 rfl) ?_
      refine JL_nil ?_
      refine JE_seq ?_
      -- stop: cond
      refine JC_cond rfl (fun h3 => ?_) (fun h3 => ?_)
      · refine JC_region ?_
        refine JL_pd rfl (det_fieldAddr rfl fo_109_2) ?_
        refine JL_dt rfl (det_loadK rfl Tryz.isAgg3 rfl) ?_
        refine JL_pd rfl (det_assign rfl) ?_
        refine JL_nil ?_
        refine JE_block ?_
        refine JE_seq ?_
        refine JC_region ?_
        refine JL_pd rfl (det_move rfl) ?_
        refine JL_pd rfl (det_add rfl rfl ⟨by omega, by omega⟩) ?_
        refine JL_pd rfl (det_assign rfl) ?_
        refine JL_nil ?_
        -- stop: end
        refine JE_round hK (i + 1) (by omega) (by omega) (stsub_consI rfl (by omega) (stsub_consI rfl (by rw [hsn, if_pos (by simp_all [inR])]) (stsub_cons rfl (stsub_cons rfl (stsub_cons rfl (stsub_cons rfl stsub_nil)))))) (hsub_cons (hsub_cons hsub_nil)) Knows.know
      · refine JC_skip ?_
        refine JE_block ?_
        refine JE_seq ?_
        refine JC_region ?_
        refine JL_pd rfl (det_move rfl) ?_
        refine JL_pd rfl (det_add rfl rfl ⟨by omega, by omega⟩) ?_
        refine JL_pd rfl (det_assign rfl) ?_
        refine JL_nil ?_
        -- stop: end
        refine JE_round hK (i + 1) (by omega) (by omega) (stsub_consI rfl (by omega) (stsub_consI rfl (by rw [hsn, if_neg (by simp_all [inR])]) (stsub_cons rfl (stsub_cons rfl (stsub_cons rfl (stsub_cons rfl stsub_nil)))))) (hsub_cons (hsub_cons hsub_nil)) Knows.know
    · refine JL_skip rfl rfl h2 rfl ?_
      refine JL_skip rfl rfl h2 rfl ?_
      refine JL_skip rfl rfl h2 rfl ?_
      refine JL_skip rfl rfl h2 rfl ?_
      refine JL_skip rfl rfl h2 rfl ?_
      refine JL_skip rfl rfl h2 rfl ?_
      refine JL_skip rfl rfl h2 rfl ?_
      refine JL_skip rfl rfl h2 rfl ?_
      refine JL_pd rfl (det_pick_f rfl h2 rfl) ?_
      refine JL_nil ?_
      refine JE_seq ?_
      -- stop: cond
      refine JC_cond rfl (fun h3 => ?_) (fun h3 => ?_)
      · refine JC_region ?_
        refine JL_pd rfl (det_fieldAddr rfl fo_109_2) ?_
        refine JL_dt rfl (det_loadK rfl Tryz.isAgg3 rfl) ?_
        refine JL_pd rfl (det_assign rfl) ?_
        refine JL_nil ?_
        refine JE_block ?_
        refine JE_seq ?_
        refine JC_region ?_
        refine JL_pd rfl (det_move rfl) ?_
        refine JL_pd rfl (det_add rfl rfl ⟨by omega, by omega⟩) ?_
        refine JL_pd rfl (det_assign rfl) ?_
        refine JL_nil ?_
        -- stop: end
        cases h3
      · refine JC_skip ?_
        refine JE_block ?_
        refine JE_seq ?_
        refine JC_region ?_
        refine JL_pd rfl (det_move rfl) ?_
        refine JL_pd rfl (det_add rfl rfl ⟨by omega, by omega⟩) ?_
        refine JL_pd rfl (det_assign rfl) ?_
        refine JL_nil ?_
        -- stop: end
        refine JE_round hK (i + 1) (by omega) (by omega) (stsub_consI rfl (by omega) (stsub_consI rfl (by rw [hsn, if_neg (by simp_all [inR]; grind)]) (stsub_cons rfl (stsub_cons rfl (stsub_cons rfl (stsub_cons rfl stsub_nil)))))) (hsub_cons (hsub_cons hsub_nil)) Knows.know
  · obtain ⟨n, hn⟩ : ∃ n : Nat, levelOf (l.patches.take i) row board = n := ⟨(levelOf (l.patches.take i) row board).toNat, by rw [List.take_of_length_le (by omega)]; omega⟩
    have e : l.patches.take i = l.patches := List.take_of_length_le (by omega)
    have hlv : n < l.hooks.length := by rw [e] at hn; omega
    rw [hn]
    refine JC_exit ?_
    refine JE_seq_exit ?_
    refine JE_then_exit ?_
    refine JE_block_here ?_
    refine JE_seq ?_
    refine JC_seq ?_
    refine JC_region ?_
    refine JL_pd rfl (det_fieldAddr rfl fo_25_2) ?_
    refine JL_dt rfl (det_loadK rfl Tryz.isAgg22 rfl) ?_
    refine JL_pd rfl (det_move rfl) ?_
    refine JL_dt rfl (det_indexAddr rfl rfl (by first | rfl | omega) (by first | assumption | omega | decide) Tryz.runUnderlying22 Tryz.sizeOf107) ?_
    refine JL_dt rfl (det_loadEA rfl (by first | assumption | omega | decide) Tryz.isAgg107 Tryz.sizeOf107 rfl rfl rfl) ?_
    refine JL_step0 rfl rfl (jo_store rfl rfl rfl (by first | (simp only [splice_norm]; done) | (simp only [splice_norm]; rfl) | rfl) Tryz.sizeOf107 rfl rfl) fun _ => ?_
    refine JL_nil ?_
    refine JE_seq ?_
    refine JC_ret ?_
    -- stop: out
    refine JE_out (.inl rfl) () (results1 Tryz.results50 (res_box rfl Tryz.isAgg107 Tryz.sizeOf107 rfl)) (by rw [show hookOf l row board = l.hooks[n] from by unfold hookOf; rw [← e, hn]; simp [List.getD_eq_getElem?_getD, hlv]]; rfl) (List.Perm.refl _) (fun _ _ => trivial)
end Go.Proofs.YthpkgabckklojaaGreat

/- Path: the states of a row as a list; Reach. -/
namespace Go.Proofs.YthpkgabckklojaaGreat
open Go.RowKit Go.Shelf

theorem mem_doneS_iff {i : Nat} {t : St} : t ∈ doneS i 0 ↔ 1 ≤ t.b ∧ t.b ≤ i ∧ -5 ≤ t.d ∧ t.d ≤ 5 := by
  refine ⟨fun h => mem_doneS h rfl, ?_⟩
  simp only [doneS, List.range_zero, List.map_nil, List.append_nil, List.mem_flatMap, List.mem_range, List.mem_map]
  rintro ⟨h1, h2, h3, h4⟩
  refine ⟨(t.b - 1).toNat, by omega, (t.d + 5).toNat, by omega, ?_⟩
  exact St.ext'.2 ⟨by dsimp only; omega, by dsimp only; omega⟩
theorem doneS_bd (i j : Nat) : ∀ x ∈ doneS i j, x.b ≤ i ∨ x.b = 1 + i ∧ x.d < -5 + j := by
  intro x hx
  simp only [doneS, List.mem_append, List.mem_flatMap, List.mem_range, List.mem_map] at hx
  rcases hx with ⟨a, ha, b, hb, rfl⟩ | ⟨b, hb, rfl⟩ <;> dsimp only <;> omega
theorem doneS_sorted (i : Nat) : ∀ j, j ≤ 11 → (doneS i j).Pairwise (fun x y => lessS x y = true) := by
  have step : ∀ i j, (doneS i j).Pairwise (fun x y => lessS x y = true) → (doneS i (j + 1)).Pairwise (fun x y => lessS x y = true) := by
    intro i j h
    rw [doneS_dir, List.pairwise_append]
    refine ⟨h, List.pairwise_singleton _ _, fun x hx y hy => ?_⟩
    rw [List.mem_singleton.1 hy]
    have := doneS_bd i j x hx
    simp only [lessS, decide_eq_true_eq]
    omega
  induction i with
  | zero =>
    intro j
    induction j with
    | zero => intro _; exact .nil
    | succ j ih => intro h; exact step 0 j (ih (by omega))
  | succ i ih =>
    intro j
    induction j with
    | zero => intro _; rw [← doneS_row]; exact ih 11 (Nat.le_refl _)
    | succ j ih2 => intro h; exact step (i + 1) j (ih2 (by omega))
/-- The states of a row, in order. -/
def rowL (l : La) (s0 : St) : Nat → List St
  | 0 => [s0]
  | k + 1 => (doneS l.boards.toNat 0).filter fun t => (rowL l s0 k).any fun s => (stepsOf l k s).contains t
theorem rowL_sorted (l : La) (s0 : St) (k : Nat) : (rowL l s0 k).Pairwise (fun x y => lessS x y = true) := by
  cases k with
  | zero => exact List.pairwise_singleton _ _
  | succ k => exact (doneS_sorted _ 0 (by omega)).filter _
theorem mem_rowL {l : La} {s0 : St} (V : Valid l) (h0 : isStart l s0 = true) : ∀ {k : Nat} {t : St}, t ∈ rowL l s0 k ↔ Rch l s0 k t := by
  intro k
  induction k with
  | zero => intro t; simp [rowL, Rch]
  | succ k ih =>
    intro t
    have hb := V.b1
    simp only [rowL, List.mem_filter, List.any_eq_true, Rch, List.contains_iff_mem, mem_doneS_iff]
    constructor
    · rintro ⟨h1, s, h2, h3⟩
      refine ⟨?_, s, ih.1 h2, h3⟩
      simp only [onL, decide_eq_true_eq]
      omega
    · rintro ⟨h1, s, h2, h3⟩
      have hd : -5 ≤ t.d ∧ t.d ≤ 5 := by
        obtain ⟨u, _, rfl⟩ := List.mem_map.1 h3
        exact nextS_d _ _
      simp only [onL, decide_eq_true_eq] at h1
      exact ⟨by omega, s, ih.2 h2, h3⟩
/-- From the row k it can go into the gutter. -/
def gutB (l : La) (s0 : St) (k : Nat) : Bool := (rowL l s0 k).any fun s => (stepsOf l k s).any fun t => !onL l t
theorem gutB_iff {l : La} {s0 : St} (V : Valid l) (h0 : isStart l s0 = true) {k : Nat} : gutB l s0 k = true ↔ Gut l s0 k := by
  simp [gutB, Gut, mem_rowL V h0]
/-- Whether it is in the gutter by a row. -/
def rowV (l : La) (s0 : St) (k : Nat) : Int := if rowL l s0 k = [] then 2 else if (List.range k).any (gutB l s0) then 1 else 0
theorem less_irrefl {s t : St} (h1 : lessS s t = true) (h2 : lessS t s = true) : False := by
  simp only [lessS, decide_eq_true_eq] at h1 h2; omega
theorem sorted_eq {a b : List St} (h1 : a.Pairwise (fun x y => lessS x y = true)) (h2 : b.Pairwise (fun x y => lessS x y = true)) (h : ∀ t, t ∈ a ↔ t ∈ b) : a = b := by
  have n1 : a.Nodup := h1.imp fun {x y} h (e : x = y) => by subst e; exact less_irrefl h h
  have n2 : b.Nodup := h2.imp fun {x y} h (e : x = y) => by subst e; exact less_irrefl h h
  exact ((List.perm_ext_iff_of_nodup n1 n2).2 h).eq_of_pairwise (fun x y _ _ h1 h2 => (less_irrefl h1 h2).elim) h1 h2
theorem RowVerdict.is {l : La} {s : St} {k : Nat} {ts : List St} {v : Int} (V : Valid l) (h0 : isStart l s = true) (h : RowVerdict l s k ts v) : ts = rowL l s k ∧ v = rowV l s k := by
  have e : ts = rowL l s k := sorted_eq h.sorted (rowL_sorted _ _ _) fun t => (h.mem t).trans (mem_rowL V h0).symm
  refine ⟨e, ?_⟩
  unfold rowV
  have hg : (List.range k).any (gutB l s) = true ↔ ∃ j, j < k ∧ Gut l s j := by simp [List.any_eq_true, gutB_iff V h0]
  rw [← e]
  by_cases h1 : ts = []
  · rw [if_pos h1]; exact h.sure h1
  · rw [if_neg h1]
    by_cases h2 : ∃ j, j < k ∧ Gut l s j
    · rw [if_pos (hg.2 h2)]; exact h.may h1 h2
    · rw [if_neg (fun e => h2 (hg.1 e))]; exact h.never h1 h2
theorem rowL_len (l : La) (s : St) (k : Nat) (V : Valid l) : (rowL l s k).length ≤ 1000 := by
  have := V.b2
  cases k with
  | zero => simp [rowL]
  | succ k =>
    refine Nat.le_trans (List.length_filter_le _ _) ?_
    rw [doneS_len]; omega

theorem Reach_je (l : La) (s : St) (row : Int) (ha pa : Option Addr) (hc pc : Nat) (he : startErr l s ≠ 0) : Cv Tryz.prog 16 [.agg #[I l.boards, I l.rows, .slice ha l.hooks.length hc, .slice pa l.patches.length pc], .agg #[I s.b, I s.d], I row] (KLane l ha hc pa pc) (.tuple #[.slice none 0 0, .int .u8 0, I (startErr l s)]) :=
  Cv_of fun w h => Reach_err l s row ha pa hc pc w h.at_ he
theorem Reach_jr (l : La) (s : St) (row : Int) (ha pa : Option Addr) (hc pc : Nat) (he : startErr l s = 0) (hr : ¬ (0 ≤ row ∧ row ≤ l.rows - 1)) : Cv Tryz.prog 16 [.agg #[I l.boards, I l.rows, .slice ha l.hooks.length hc, .slice pa l.patches.length pc], .agg #[I s.b, I s.d], I row] (KLane l ha hc pa pc) (.tuple #[.slice none 0 0, .int .u8 0, I 2]) :=
  Cv_of fun w h => Reach_row l s row ha pa hc pc w h.at_ he hr
theorem KSl_new {α : Type} {enc : α → List Value} {xs : List α} {a : Option Addr} {n cap B : Nat} {w w2 : World} (h : SlAt w a n cap (xs.flatMap enc)) (hn : n = xs.length) (hN : NewSl B (.slice a n cap)) (hz : w.heap.size ≤ w2.heap.size) (he : ∀ b, B ≤ b → b < w.heap.size → w2.heap[b]? = w.heap[b]?) :
    KSl a n cap enc xs w2 := by
  refine ⟨⟨h.1, h.2.1, h.2.2.1, fun hne => ?_⟩, hn⟩
  obtain ⟨b, o, rfl, hb, hc⟩ := h.2.2.2 hne
  refine ⟨b, o, rfl, by omega, fun i c hi => ?_⟩
  rw [← hc i c hi]
  unfold World.cell?
  dsimp only
  rw [he b (hN _ _ _ rfl) hb]
theorem Reach_jo (l : La) (s : St) (row : Nat) (ha pa : Option Addr) (hc pc : Nat) (he : startErr l s = 0) (hr : (row : Int) < l.rows) : Cr Tryz.prog 16 [.agg #[I l.boards, I l.rows, .slice ha l.hooks.length hc, .slice pa l.patches.length pc], .agg #[I s.b, I s.d], I row] (KLane l ha hc pa pc)
    (fun q : Option Addr × Nat => .tuple #[.slice q.1 (rowL l s row).length q.2, .int .u8 (rowV l s row), I 0]) (fun q => KSl q.1 (rowL l s row).length q.2 encSt (rowL l s row)) :=
  Cr_of fun w h => (Reach_ok l s row ha pa hc pc w h.at_ he hr).mono fun e w' ⟨ts, u, v, h1, ⟨a, cap, h2, h3⟩, h4, h5, hb⟩ => by
    obtain ⟨V, h0⟩ := valid_start he
    obtain ⟨rfl, rfl⟩ := h4.is V h0
    subst h2
    exact ⟨(a, cap), h1, hb, fun w2 _ hz hn => KSl_new h3 rfl h5 hz hn⟩
end Go.Proofs.YthpkgabckklojaaGreat

/- The statements about path: awake. -/
namespace Go.Proofs.YthpkgabckklojaaGreat
open Go.RowKit Go.Shelf

theorem awake_start : startErr oiledL ⟨12, 2⟩ = 0 := by decide +kernel
theorem awake_aims : aimsErr oiledL aimedP = 0 := by decide +kernel
theorem awake_rowL : rowL oiledL ⟨12, 2⟩ 4 = [⟨10, -2⟩, ⟨14, -1⟩] := by decide +kernel
theorem awake_rowV : rowV oiledL ⟨12, 2⟩ 4 = 0 := by decide +kernel
theorem awake_turn : turnV oiledL ⟨12, 2⟩ = ⟨13, 15⟩ := by decide +kernel
theorem awake_best : bestF (aimsL oiledL aimedP) = (⟨12, 2⟩, 1) := by decide +kernel
abbrev awL : List St := [⟨10, -2⟩, ⟨14, -1⟩]
theorem awakeR_j (ha pa : Option Addr) (hc pc : Nat) : Cr Tryz.prog 16 [.agg #[I 20, I 5, .slice ha 2 hc, .slice pa 1 pc], .agg #[I 12, I 2], I 4] (KLane oiledL ha hc pa pc)
    (fun q : Option Addr × Nat => .tuple #[.slice q.1 awL.length q.2, .int .u8 0, I 0]) (fun q => KSl q.1 awL.length q.2 encSt awL) := by
  have h := Reach_jo oiledL ⟨12, 2⟩ 4 ha pa hc pc awake_start (by decide)
  rw [awake_rowL, awake_rowV] at h
  exact h
end Go.Proofs.YthpkgabckklojaaGreat

/- What came in, opened to plain values; and a law's row shut. Nothing is asked. -/
namespace Go.Proofs.YthpkgabckklojaaGreat
open Go.ChangeShapes Go.WideShapes Go.ChangeAt Go.RowKit Go.Deep

/-- The cells of a type are those of a plain value. -/
def OpensTo (P : Program) (t : TypeId) {α : Type} (e : α → List Value) : Prop :=
  ∀ (H : Type) (enc : TypeId × Value → H) (w : World) (base : Nat) (spare : Nat → Bool) (held : Bool) (n : Nat) (cs : List Value) (y : DataW H × List MemPlace), DataW.trod enc P w base spare held n t cs = some y → ∃ x, cs = e x
section
variable {P : Program} {t : TypeId} {α β γ : Type} {e0 : α → List Value} {e1 : β → List Value} {e2 : γ → List Value}
theorem OpensTo.to {e : β → List Value} (h : OpensTo P t e0) (f : α → β) (hf : ∀ x, e0 x = e (f x)) : OpensTo P t e := fun H enc w base sp hd n cs y hy => by
  obtain ⟨x, rfl⟩ := h H enc w base sp hd n cs y hy
  exact ⟨f x, hf x⟩
theorem opens_int {k : IntKind} (ht : P.underlying t = some (.int k)) : OpensTo P t (fun n : Int => [.int k n]) := fun H enc w base sp hd n cs y hy => by
  obtain ⟨m, rfl, _⟩ := DataW.trod_int ht hy
  exact ⟨m, rfl⟩
theorem opens_wfint {k : IntKind} (ht : P.underlying t = some (.int k)) : OpensTo P t (fun n : { m : Int // (Lit.int k m).wf = true } => [.int k n.1]) := fun H enc w base sp hd n cs y hy => by
  obtain ⟨m, rfl, _, hw⟩ := DataW.trod_int ht hy
  exact ⟨⟨m, hw⟩, rfl⟩
theorem opens_struct2 {f0 f1 : Field} (ht : P.underlying t = some (.struct #[f0, f1])) (h0 : OpensTo P f0.type e0) (h1 : OpensTo P f1.type e1) (o0 : f0.offset = 0) (o1 : f1.offset = P.cellsOf f0.type) (hc : P.cellsOf t = P.cellsOf f0.type + P.cellsOf f1.type) :
    OpensTo P t (fun p : α × β => e0 p.1 ++ e1 p.2) := fun H enc w base sp hd n cs y hy => by
  obtain ⟨y0, y1, m, _, hl, t0, t1⟩ := trod_struct2 ht hy
  obtain ⟨a, ha⟩ := h0 _ _ _ _ _ _ _ _ _ t0
  obtain ⟨b, hb⟩ := h1 _ _ _ _ _ _ _ _ _ t1
  refine ⟨(a, b), ?_⟩
  rw [o0, List.drop_zero] at ha
  rw [o1, List.take_of_length_le (by rw [List.length_drop, hl, hc]; omega)] at hb
  show cs = e0 a ++ e1 b
  rw [← ha, ← hb, List.take_append_drop]
theorem opens_struct3 {f0 f1 f2 : Field} (ht : P.underlying t = some (.struct #[f0, f1, f2])) (h0 : OpensTo P f0.type e0) (h1 : OpensTo P f1.type e1) (h2 : OpensTo P f2.type e2) (o0 : f0.offset = 0) (o1 : f1.offset = P.cellsOf f0.type) (o2 : f2.offset = P.cellsOf f0.type + P.cellsOf f1.type) (hc : P.cellsOf t = P.cellsOf f0.type + P.cellsOf f1.type + P.cellsOf f2.type) :
    OpensTo P t (fun p : α × β × γ => e0 p.1 ++ (e1 p.2.1 ++ e2 p.2.2)) := fun H enc w base sp hd n cs y hy => by
  obtain ⟨xs, m, _, _, hl, hlen, hf⟩ := DataW.trod_struct ht hy
  match xs, hlen with
  | [y0, y1, y2], _ =>
  obtain ⟨a, ha⟩ := h0 _ _ _ _ _ _ _ _ _ (show _ = some y0 by simpa using hf 0 f0 rfl)
  obtain ⟨b, hb⟩ := h1 _ _ _ _ _ _ _ _ _ (show _ = some y1 by simpa using hf 1 f1 rfl)
  obtain ⟨c, hc2⟩ := h2 _ _ _ _ _ _ _ _ _ (show _ = some y2 by simpa using hf 2 f2 rfl)
  refine ⟨(a, b, c), ?_⟩
  rw [o0, List.drop_zero] at ha
  rw [o1] at hb
  rw [o2, List.take_of_length_le (by rw [List.length_drop, hl, hc]; omega)] at hc2
  show cs = e0 a ++ (e1 b ++ e2 c)
  rw [← ha, ← hb, ← hc2, ← List.drop_drop, List.take_append_drop, List.take_append_drop]
/-- A slice that came in. -/
theorem opens_slice {H : Type} {enc : TypeId × Value → H} {w : World} {base : Nat} {spare : Nat → Bool} {held : Bool} {fuel : Nat} {cs : List Value} {y : DataW H × List MemPlace} {E : TypeId} {z : Nat} (ht : P.underlying t = some (.slice E)) (hE : OpensTo P E e0) (hz : P.cellsOf E = z) [hr : Rec e0 z]
    (h : DataW.trod enc P w base spare held fuel t cs = some y) : ∃ (a : Option Addr) (cap : Nat) (xs : List α), cs = [.slice a xs.length cap] ∧ KSl a xs.length cap e0 xs w := by
  rcases open_slice ht h with ⟨rfl, _⟩ | ⟨a, len, cap, m, n, D, Pl, rfl, hb, hl, hm, hmm, _, hel⟩
  · exact ⟨none, 0, [], rfl, ⟨⟨Nat.le_refl _, by decide, fun _ => ⟨rfl, rfl⟩, fun h => absurd rfl h⟩, rfl⟩⟩
  · have hle : len ≤ m := by rw [hmm]; split <;> omega
    have hx : ∀ i, i < len → ∃ x : α, w.cells? base (a.add (i * z)) z = some (e0 x) := fun i hi => by
      obtain ⟨cs', h1, h2⟩ := hel i (by omega)
      obtain ⟨x, rfl⟩ := hE _ _ _ _ _ _ _ _ _ h2
      rw [hz] at h1
      exact ⟨x, h1⟩
    by_cases h0 : len = 0
    · subst h0
      exact ⟨some a, cap, [], rfl, ⟨⟨Nat.zero_le _, hm, fun h => (by cases h), fun h => absurd rfl h⟩, rfl⟩⟩
    · obtain ⟨x0, _⟩ := hx 0 (by omega)
      haveI : Inhabited α := ⟨x0⟩
      obtain ⟨f, hf⟩ := choose_lt hx
      have hlen : ((List.range len).map f).length = len := by simp
      refine ⟨some a, cap, (List.range len).map f, by rw [hlen], ⟨⟨by rw [hlen]; exact hl, hm, fun h => (by cases h), fun _ => ?_⟩, rfl⟩⟩
      obtain ⟨b, o, sp⟩ := a
      have hpos := hr.pos
      have hall : ∀ i, i < len → ∀ j, j < z → w.cell? (((⟨b, o, sp⟩ : Addr).add (i * z)).add j) = (e0 (f i))[j]? := fun i hi j hj => (World.cells?_some (hf i hi)).2.2 j hj
      have hs : sp = none := by
        have h1 := hall 0 (by omega) 0 hpos
        have h2 : ∃ c, (e0 (f 0))[0]? = some c := ⟨_, List.getElem?_eq_getElem (by rw [hr.len]; exact hpos)⟩
        obtain ⟨c, h2⟩ := h2
        rw [h2] at h1
        simpa [Addr.add] using World.cell?_spot h1
      subst hs
      have hbl : b < w.heap.size := by
        have := World.cells?_block (hf 0 (by omega)) hpos
        simpa [Addr.add] using this
      refine ⟨b, o, rfl, hbl, fun q c hc => ?_⟩
      have hq : q < len * z := by
        have : q < ((List.range len).map f |>.flatMap e0).length := (List.getElem?_eq_some_iff.1 hc).1
        rwa [flatMap_len e0 z hr.len, hlen] at this
      have hdiv : q / z < len := Nat.div_lt_of_lt_mul (by rw [Nat.mul_comm]; exact hq)
      have hmod : q % z < z := Nat.mod_lt _ hpos
      have hqe : q = q / z * z + q % z := by rw [Nat.mul_comm]; exact (Nat.div_add_mod q z).symm
      have h1 := hall (q / z) hdiv (q % z) hmod
      rw [addr_add, addr_add] at h1
      rw [hqe, ← Nat.add_assoc, h1]
      have h2 := flatMap_get e0 z hr.len ((List.range len).map f) (q / z) (q % z) (f (q / z)) (by simp [hdiv]) hmod
      rw [← hqe, hc] at h2
      exact h2.symm
end
section
variable {H : Type} {enc : TypeId × Value → H} {P : Program}
theorem trodAll_stays (hl : laidOutB P = true) {W W' : World} (hb : Below W.heap.size W W') : ∀ {ts : List TypeId} {vs : List Value} {ds : List (DataW H)} {p : List MemPlace}, (∀ t ∈ ts, P.readableRec t = true ∧ t < P.types.size) → DataW.TrodAll enc P W 0 (fun _ => true) true ts vs ds p → (∀ x ∈ p, x.block < W.heap.size) →
    DataW.TrodAll enc P W' 0 (fun b => decide (b < W.heap.size)) true ts vs ds p
  | [], [], [], _, _, h, _ => h
  | [], [], _ :: _, _, _, h, _ => h.elim
  | [], _ :: _, _, _, _, h, _ => h.elim
  | _ :: _, [], _, _, _, h, _ => h.elim
  | _ :: _, _ :: _, [], _, _, h, _ => h.elim
  | t :: ts, v :: vs, d :: ds, p, hr, ⟨p1, p2, h1, h2, e⟩, hlt => by
    subst e
    exact ⟨p1, p2, Below.trod hl (hr t (by simp)).1 (hr t (by simp)).2 h1 hb (fun x hx => hlt x (by simp [hx])), trodAll_stays hl hb (fun t ht => hr t (by simp [ht])) h2 (fun x hx => hlt x (by simp [hx])), rfl⟩
/-- What a law owes at its return. -/
theorem law_post {f : Func} {s : ChangeSpec} {W W' : World} {args : Array Value} {ds gs : List (DataW H)} {before : List MemPlace} {tb : TypeId} (hW : DataW.Whole enc P f.params.toList s.vars false W args.toList ds gs before) (hb : Below W.heap.size W W')
    (hl : laidOutB P = true) (hr : ∀ t ∈ f.params.toList, P.readableRec t = true ∧ t < P.types.size) (hv : s.vars = []) (ht : f.resultTypes = #[tb]) (hu : P.underlying tb = some .bool) (h1 : (s.fn H (ds ++ gs)).results = [.lit (.bool true)]) (h2 : (s.fn H (ds ++ gs)).args = ds) (h3 : (s.fn H (ds ++ gs)).vars = []) :
    s.post enc P f false true false false W args (.bool true) W' := by
  have hlt := hW.lt
  have hW2 := hW
  obtain ⟨p, q, hA, hV, rfl, hfz, hnd⟩ := hW
  refine ⟨ds, gs, _, [], p, [], hW2, ?_, ?_, ?_, hb.frame _, fun h => by cases h⟩
  · rw [ht, h1]; exact trodAll_mk1 (shut_bool hu _)
  · rw [h2]; exact trodAll_stays hl hb hr hA fun x hx => hlt x (List.mem_append_left _ hx)
  · rw [h3, hv]; rfl
/-- From a contract to what a law's row asks. -/
theorem Cv.below {f : FuncId} {args : List Value} {pre : World → Prop} {v : Value} (h : Cv P f args pre v) {W : World} (hp : ∀ w', Below W.heap.size W w' → pre w') : Calls P f args.toArray W fun e W' => e = .returned v ∧ Below W.heap.size W W' := by
  refine (h (fun _ => False) W (fun _ h => h.elim) (by simp) .nil (fun w' hm => hp w' (hm.below (Nat.le_refl _) fun i _ h => h))).mono ?_
  rintro e w' ⟨_, M', rfl, hm, _⟩
  exact ⟨rfl, hm.below (Nat.le_refl _) fun i _ ⟨c, hc, _⟩ => by cases hc⟩
theorem KSl.below {α : Type} {a : Option Addr} {n cap : Nat} {e : α → List Value} {xs : List α} {w w' : World} (h : KSl a n cap e xs w) (hb : Below w.heap.size w w') : KSl a n cap e xs w' := ⟨h.1.below hb (Nat.le_refl _), h.2⟩
end
end Go.Proofs.YthpkgabckklojaaGreat

/- The statements about path: what came in, as plain values. -/
namespace Go.Proofs.YthpkgabckklojaaGreat
open Go.ChangeShapes Go.WideShapes Go.ChangeAt Go.RowKit Go.Deep Go.Joins

theorem own : ownKnob Tryz.prog.godebug = none := by kernel_rfl
theorem laidOut : laidOutB Tryz.prog = true := by kernel_rfl
section
variable {H : Type} {enc : TypeId × Value → H} {P : Program}
theorem open_aggv {α : Type} {e : α → List Value} {t : TypeId} {fs : Array Field} {w : World} {r : Reach} {b0 base : Nat} {sp : Nat → Bool} {held : Bool} {v : Value} {d : DataW H} {p : List MemPlace} (hs : P.underlying t = some (.struct fs)) (hO : OpensTo P t e)
    (hv : Value.okWide P w r b0 t v) (h : DataW.Trod enc P w base sp held t v d p) : ∃ x, v = .agg (e x).toArray := by
  obtain ⟨cs, rfl, _⟩ := okWide_struct hs hv
  obtain ⟨fuel, hf⟩ := h
  obtain ⟨x, hx⟩ := hO _ _ _ _ _ _ _ _ _ hf
  refine ⟨x, ?_⟩
  simp only [Value.cells] at hx
  rw [← hx]
theorem open_slicev {α : Type} {e : α → List Value} {t E : TypeId} {z : Nat} {w : World} {r : Reach} {b0 base : Nat} {sp : Nat → Bool} {held : Bool} {v : Value} {d : DataW H} {p : List MemPlace} (hs : P.underlying t = some (.slice E)) (hE : OpensTo P E e) (hz : P.cellsOf E = z) [hr : Rec e z]
    (hv : Value.okWide P w r b0 t v) (h : DataW.Trod enc P w base sp held t v d p) : ∃ (a : Option Addr) (cap : Nat) (xs : List α), v = .slice a xs.length cap ∧ KSl a xs.length cap e xs w := by
  obtain ⟨a, n, cap, rfl⟩ := okWide_slice hs hv
  obtain ⟨fuel, hf⟩ := h
  obtain ⟨a', cap', xs, h1, h2⟩ := opens_slice hs hE hz hf
  simp only [Value.cells, List.cons.injEq, and_true] at h1
  exact ⟨a', cap', xs, h1, h2⟩
end
theorem opensI : OpensTo Tryz.prog 3 encI := (opens_int Tryz.underlying3).to id fun _ => rfl
theorem opensRg : OpensTo Tryz.prog 107 encRg :=
  (opens_struct2 Tryz.underlying107 opensI opensI rfl (by kernel_rfl) (by kernel_rfl)).to (fun p => ⟨p.1, p.2⟩) fun _ => rfl
set_option maxRecDepth 100000 in
theorem opensPa : OpensTo Tryz.prog 109 encPa :=
  (opens_struct3 Tryz.underlying109 opensRg opensRg opensI rfl (by kernel_rfl) (by kernel_rfl) (by kernel_rfl)).to (fun p => ⟨p.1, p.2.1, p.2.2⟩) fun _ => rfl
theorem opensSt : OpensTo Tryz.prog 27 encSt :=
  (opens_struct2 Tryz.underlying27 opensI opensI rfl (by kernel_rfl) (by kernel_rfl)).to (fun p => ⟨p.1, p.2⟩) fun _ => rfl
def encPk (p : Pk) : List Value := [I p.boards.lo, I p.boards.hi, I p.dirs.lo, I p.dirs.hi]
set_option maxRecDepth 100000 in
theorem open_lane {H : Type} {enc : TypeId × Value → H} {w : World} {r : Reach} {b0 base : Nat} {sp : Nat → Bool} {held : Bool} {v : Value} {d : DataW H} {p : List MemPlace} (hv : Value.okWide Tryz.prog w r b0 25 v) (h : DataW.Trod enc Tryz.prog w base sp held 25 v d p) :
    ∃ (l : La) (ha pa : Option Addr) (hc pc : Nat), v = .agg #[I l.boards, I l.rows, .slice ha l.hooks.length hc, .slice pa l.patches.length pc] ∧ KLane l ha hc pa pc w := by
  obtain ⟨v0, v1, v2, v3, y0, y1, y2, y3, n, rfl, _, _, t0, t1, t2, t3⟩ := open_agg4 Tryz.underlying25 (by kernel_rfl) (by kernel_rfl) hv h
  obtain ⟨b, e0, _⟩ := DataW.trod_int Tryz.underlying3 t0
  obtain ⟨r', e1, _⟩ := DataW.trod_int Tryz.underlying3 t1
  obtain ⟨ha, hc, hs, e2, k2⟩ := opens_slice Tryz.underlying22 opensRg (by kernel_rfl) t2
  obtain ⟨pa, pc, ps, e3, k3⟩ := opens_slice Tryz.underlying23 opensPa (by kernel_rfl) t3
  simp only [List.cons.injEq, and_true] at e0 e1 e2 e3
  subst e0 e1 e2 e3
  exact ⟨⟨b, r', hs, ps⟩, ha, pa, hc, pc, rfl, k2, k3⟩
theorem KLane.below {l : La} {ha pa : Option Addr} {hc pc : Nat} {w w' : World} (h : KLane l ha hc pa pc w) (hb : Below w.heap.size w w') : KLane l ha hc pa pc w' := ⟨h.1.below hb, h.2.below hb⟩
end Go.Proofs.YthpkgabckklojaaGreat

/- Walks of reference and law of path: list, states, Play. -/
namespace Go.Proofs.YthpkgabckklojaaGreat
open Go.RowKit Go.Shelf

section
variable {X : Ctx} {P : Program} {st : Sto} {H H' : List Chunk} {R : World → Prop} {d : Option Nat} {ty : TypeId} {pos : String} {af : Array Edge} {g : Option (Nat × Bool)}
end
theorem KSl_nil {α : Type} {e : α → List Value} (w : World) : KSl none 0 0 e ([] : List α) w := ⟨⟨Nat.le_refl _, by decide, fun _ => ⟨rfl, rfl⟩, fun h => absurd rfl h⟩, rfl⟩
theorem encI_one (y : Int) : (encI y).all (·.oneCell') = true := rfl
end Go.Proofs.YthpkgabckklojaaGreat

/- Play of path: the plain function, and the reference's walk. -/
namespace Go.Proofs.YthpkgabckklojaaGreat
open Go.RowKit Go.Shelf

/-- What a ball does, from a state on, by turns. -/
def playR (l : La) : List St → St → List Int → List St × Bool × Bool
  | out, _, [] => (out, false, decide ((out.length : Int) = l.rows))
  | out, s, t :: ts => if (out.length : Int) = l.rows then ([], false, false) else if inR t (hookOf l ((out.length : Int) - 1) s.b) = true then (if onL l (nextS s t) = true then playR l (out ++ [nextS s t]) (nextS s t) ts else (out, true, ts.isEmpty)) else ([], false, false)
theorem playR_nil (l : La) (out : List St) (s : St) : playR l out s [] = (out, false, decide ((out.length : Int) = l.rows)) := by unfold playR; rfl
theorem playR_full {l : La} {out : List St} (s : St) (t : Int) (ts : List Int) (h : (out.length : Int) = l.rows) : playR l out s (t :: ts) = ([], false, false) := by
  unfold playR; rw [if_pos h]
theorem playR_bad {l : La} {out : List St} {s : St} {t : Int} (ts : List Int) (h2 : inR t (hookOf l ((out.length : Int) - 1) s.b) = false) : playR l out s (t :: ts) = ([], false, false) := by
  unfold playR; split
  · rfl
  · rw [if_neg (by rw [h2]; decide)]
theorem playR_off {l : La} {out : List St} {s : St} {t : Int} (ts : List Int) (h : ¬ (out.length : Int) = l.rows) (h2 : inR t (hookOf l ((out.length : Int) - 1) s.b) = true) (h3 : onL l (nextS s t) = false) : playR l out s (t :: ts) = (out, true, ts.isEmpty) := by
  conv => lhs; unfold playR
  rw [if_neg h, if_pos h2, if_neg (by rw [h3]; decide)]
theorem playR_on {l : La} {out : List St} {s : St} {t : Int} (ts : List Int) (h : ¬ (out.length : Int) = l.rows) (h2 : inR t (hookOf l ((out.length : Int) - 1) s.b) = true) (h3 : onL l (nextS s t) = true) : playR l out s (t :: ts) = playR l (out ++ [nextS s t]) (nextS s t) ts := by
  conv => lhs; unfold playR
  rw [if_neg h, if_pos h2, if_pos h3]
theorem playR_len (l : La) : ∀ (ts : List Int) (out : List St) (s : St), (playR l out s ts).1.length ≤ out.length + ts.length := by
  intro ts
  induction ts with
  | nil => intro out s; rw [playR_nil]; simp
  | cons t ts ih =>
    intro out s
    conv => lhs; unfold playR
    split
    · simp
    · split
      · split
        · have := ih (out ++ [nextS s t]) (nextS s t)
          simp at this ⊢; omega
        · simp
      · simp
theorem drop_cons {α : Type} {l : List α} {i : Nat} (h : i < l.length) : l.drop i = l[i] :: l.drop (i + 1) := (List.getElem_cons_drop h).symm
theorem notT {b : Bool} (h : (!b) = true) : b = false := by simpa using h
/-- A ball's whole play. -/
def playV (l : La) (s : St) (turns : List Int) : List St × Bool × Bool := playR l [s] s turns

end Go.Proofs.YthpkgabckklojaaGreat

/- Own texts, laid together: C9 C10 C11 C12 C13 C14 C15 C16. Nothing is asked. -/
import Derived.Test.YtgbfjcgjcnndpaaB4
import Derived.Test.YtgbfjcgjcnndpaaB3
set_option linter.unusedSimpArgs false
set_option linter.unusedVariables false
/- Walks of cycle: the stands of a row of bools. -/
namespace Go.Proofs.Ytgbfjcgjcnndpaa
open Go.RowKit Go.Shelf

def standsN (w : Nat → Bool) (n : Nat) : List Sd := ((List.range n).filter w).map sdOf
theorem standsN_succ (w : Nat → Bool) (n : Nat) : standsN w (n + 1) = standsN w n ++ (if w n = true then [sdOf n] else []) := by
  unfold standsN
  rw [List.range_succ, List.filter_append, List.map_append]
  congr 1
  cases h : w n <;> simp [h]
theorem standsN_len (w : Nat → Bool) (n : Nat) : (standsN w n).length ≤ n := by
  unfold standsN
  rw [List.length_map]
  exact Nat.le_trans (List.length_filter_le _ _) (by simp)
def standsW (w : Nat → Bool) : List Sd := standsN w 24
set_option maxRecDepth 100000 in
theorem wstands_j (w : Nat → Bool) : Cr Try.prog 61 [.agg (encW 24 w).toArray] KTrue (fun q : Option Addr × Nat => .slice q.1 (standsW w).length q.2) (fun q => KSl q.1 (standsW w).length q.2 encSd (standsW w)) := by
  refine Cx_of Try.func61 rfl Try.ntmps61 rfl fun w0 M0 => ?_
  refine JC_seq ?_
  refine JC_region ?_
  refine JL_step rfl rfl rfl (jo_box rfl rfl) fun b1 => ?_
  refine JL_pd rfl (det_assign rfl) ?_
  refine JL_nil ?_
  refine JE_seq ?_
  refine JC_seq ?_
  refine JC_seq ?_
  refine JC_region ?_
  refine JL_pd rfl (det_move rfl) ?_
  refine JL_nil ?_
  refine JE_seq ?_
  refine JC_block ?_
  -- stop: loop
  refine JC_nil 77 2 ?_
  refine JC_loopF (γ := Nat × Value) (fun q => q.1 ≤ 8) (fun q => [(6, I q.1), (2, q.2)]) (fun q => [ow q.2 77 2 (standsN w (q.1 * 3)).length ((standsN w (q.1 * 3)).flatMap encSd)]) (fun q => 8 - q.1) (0, .slice none 0 0) (by simp) (stsub_consI rfl rfl (stsub_cons rfl stsub_nil)) (show HTake _ [ow (.slice none 0 0) 77 2 0 []] _ from ht_cons ht_nil) ?_
  rintro ⟨i, v⟩ hi K hK
  dsimp only [List.cons_append, List.nil_append] at hi ⊢
  refine JC_seq ?_
  refine JC_region ?_
  refine JL_pd rfl (det_lss rfl rfl) ?_
  refine JL_nil ?_
  refine JE_seq ?_
  refine JC_seq ?_
  -- stop: cond
  refine JC_if rfl (fun h1 => ?_) (fun h1 => ?_)
  · have hi2 : i < 8 := by omega
    refine JC_skip ?_
    refine JE_seq ?_
    refine JC_seq ?_
    refine JC_block ?_
    refine JC_seq ?_
    refine JC_region ?_
    refine JL_pd rfl (det_move rfl) ?_
    refine JL_pd rfl (det_assign rfl) ?_
    refine JL_nil ?_
    refine JE_seq ?_
    refine JC_seq ?_
    refine JC_region ?_
    refine JL_pd rfl (det_move rfl) ?_
    refine JL_pd rfl (det_indexArr (i := i) rfl rfl rfl (by omega) Try.runUnderlying103 Try.sizeOf43) ?_
    refine JL_dt rfl (det_loadKA (vs := ((encW 24 w).drop (0 + i * 3)).take 3) rfl Try.isAgg43 Try.sizeOf43 rfl (by rw [List.length_take, List.length_drop, encW_len]; omega)) ?_
    refine JL_pd rfl (det_move rfl) ?_
    refine JL_nil ?_
    refine JE_seq ?_
    refine JC_block ?_
    -- stop: loop
    refine JC_loopF (γ := Nat × Value) (fun q => q.1 ≤ 3) (fun q => [(12, I q.1), (2, q.2)]) (fun q => [ow q.2 77 2 (standsN w (i * 3 + q.1)).length ((standsN w (i * 3 + q.1)).flatMap encSd)]) (fun q => 3 - q.1) (0, v) (by simp) (stsub_consI rfl rfl (stsub_cons rfl stsub_nil)) (ht_cons ht_nil) ?_
    rintro ⟨j, u⟩ hj K2 hK2
    dsimp only [List.cons_append, List.nil_append] at hj ⊢
    have hs := standsN_succ w (i * 3 + j)
    have hlen := standsN_len w (i * 3 + j)
    refine JC_seq ?_
    refine JC_region ?_
    refine JL_pd rfl (det_lss rfl rfl) ?_
    refine JL_nil ?_
    refine JE_seq ?_
    refine JC_seq ?_
    -- stop: cond
    refine JC_if rfl (fun h2 => ?_) (fun h2 => ?_)
    · have hj2 : j < 3 := by omega
      refine JC_skip ?_
      refine JE_seq ?_
      refine JC_seq ?_
      refine JC_block ?_
      refine JC_seq ?_
      refine JC_region ?_
      refine JL_pd rfl (det_move rfl) ?_
      refine JL_pd rfl (det_indexArrV (i := j) (v := .bool (w (i * 3 + j))) rfl rfl rfl (by omega) Try.runUnderlying43 Try.sizeOf4 Try.isAgg4 (by rw [List.getElem?_take_of_lt (by omega), List.getElem?_drop, Nat.zero_add]; exact encW_get (by omega))) ?_
      refine JL_pd rfl (det_assign rfl) ?_
      refine JL_pd rfl (det_assign rfl) ?_
      refine JL_nil ?_
      refine JE_seq ?_
      refine JC_seq ?_
      refine JC_region ?_
      refine JL_pd rfl (det_move rfl) ?_
      refine JL_nil ?_
      refine JE_seq ?_
      -- stop: cond
      refine JC_cond rfl (fun h3 => ?_) (fun h3 => ?_)
      · rw [if_pos h3] at hs
        have hsd : encSd (sdOf (i * 3 + j)) = [I i, I j] := by
          unfold encSd sdOf
          rw [show (i * 3 + j) / 3 = i by omega, show (i * 3 + j) % 3 = j by omega]
        refine JC_region ?_
        refine JL_pd rfl (det_move rfl) ?_
        refine JL_pd rfl (det_move rfl) ?_
        refine JL_pd rfl (det_move rfl) ?_
        refine JL_pd rfl (det_build rfl (bld_77_0_1 _ _)) ?_
        refine JL_step rfl rfl rfl (jo_buildSlice rfl (bsl_36_1_0 _ _)) fun b21 => ?_
        refine JL_step rfl rfl rfl (jo_append el_36 rfl rfl rfl rfl (by omega)) fun b22 => ?_
        refine JL_pd rfl (det_assign rfl) ?_
        refine JL_nil ?_
        refine JE_block ?_
        refine JE_seq ?_
        refine JC_region ?_
        refine JL_pd rfl (det_add rfl rfl ⟨by omega, by omega⟩) ?_
        refine JL_pd rfl (det_move rfl) ?_
        refine JL_nil ?_
        -- stop: end
        refine JE_roundF hK2 (j + 1, .slice (some ⟨b22.1, 0, none⟩) ((standsN w (i * 3 + j)).length + 1) b22.2) (by simp only; omega) (by simp only; omega) (stsub_consI rfl (by simp only; omega) (stsub_cons rfl stsub_nil)) (ht_ow (by rw [← Nat.add_assoc, hs]; simp) (by rw [← Nat.add_assoc, hs, List.flatMap_append, List.flatMap_cons, List.flatMap_nil, List.append_nil, hsd]) ht_nil)
      · rw [if_neg (by simp [h3]), List.append_nil] at hs
        refine JC_skip ?_
        refine JE_block ?_
        refine JE_seq ?_
        refine JC_region ?_
        refine JL_pd rfl (det_add rfl rfl ⟨by omega, by omega⟩) ?_
        refine JL_pd rfl (det_move rfl) ?_
        refine JL_nil ?_
        -- stop: end
        refine JE_roundF hK2 (j + 1, u) (by simp only; omega) (by simp only; omega) (stsub_consI rfl (by simp only; omega) (stsub_cons rfl stsub_nil)) (ht_ow (by rw [← Nat.add_assoc, hs]) (by rw [← Nat.add_assoc, hs]) ht_nil)
    · obtain rfl : j = 3 := by omega
      refine JC_exit ?_
      refine JE_seq_exit ?_
      refine JE_then_exit ?_
      refine JE_block_here ?_
      refine JE_block ?_
      refine JE_seq ?_
      refine JC_region ?_
      refine JL_pd rfl (det_add rfl rfl ⟨by omega, by omega⟩) ?_
      refine JL_pd rfl (det_move rfl) ?_
      refine JL_nil ?_
      -- stop: end
      refine JE_roundF hK (i + 1, u) (by simp only; omega) (by simp only; omega) (stsub_consI rfl (by simp only; omega) (stsub_cons rfl stsub_nil)) (ht_ow (by rw [Nat.add_mul, Nat.one_mul]) (by rw [Nat.add_mul, Nat.one_mul]) ht_nil)
  · obtain rfl : i = 8 := by omega
    refine JC_slice (enc := encSd) (v := v) (standsW w) noFp rfl rfl ?_
    rintro av cv rfl
    refine JC_exit ?_
    refine JE_seq_exit ?_
    refine JE_then_exit ?_
    refine JE_block_here ?_
    refine JE_seq ?_
    refine JC_seq ?_
    refine JC_region ?_
    refine JL_pd rfl (det_move rfl) ?_
    refine JL_pd rfl (det_assign rfl) ?_
    refine JL_nil ?_
    refine JE_seq ?_
    refine JC_ret ?_
    -- stop: out
    refine JE_out (.inl rfl) (av, cv) (results1 Try.results61 (res_tmp rfl)) rfl (List.Perm.refl _) (fun w h => h.1)
end Go.Proofs.Ytgbfjcgjcnndpaa

/- Walks of cycle: Stands. -/
namespace Go.Proofs.Ytgbfjcgjcnndpaa
open Go.RowKit Go.Shelf

theorem standsW_all (w : Nat → Bool) : standsW w = all24.filter fun s => w (ix s) := by
  unfold standsW standsN all24
  rw [List.filter_map]
  have e : ((fun s => w (ix s)) ∘ sdOf) = w := by
    funext i
    show w (ix (sdOf i)) = w i
    rw [ix_sd]
  rw [e]
theorem standsW_reach {m : Mc} (V : Valid m) {w' : Nat → Bool} (h : Vis m (fun _ => false) ⟨0, 0⟩ w') : standsW w' = reachL m m.locks := by
  obtain ⟨p, hp⟩ := levL_form m m.locks 24
  show _ = levL m m.locks 24
  rw [standsW_all, hp]
  refine List.filter_congr fun s hs => ?_
  obtain ⟨a, b, c, d⟩ := mem_all.1 hs
  rw [Bool.eq_iff_iff, h.all V (ix_lt a b c d), sd_ix a c d, ← mem_reachL V]
  show s ∈ levL m m.locks 24 ↔ _
  rw [hp, List.mem_filter]
  exact ⟨fun h => h.2, fun h => ⟨hs, h⟩⟩
theorem Stands_je (m : Mc) (a : MA) (he : fault m ≠ 0) : Cv Try.prog 21 [.agg #[I m.states, .slice a.sa m.steps.length a.sc, .slice a.ra m.running.length a.rc, .slice a.ka m.locks.length a.kc]] (KMc m a) (.tuple #[.slice none 0 0, I (fault m)]) := by
  refine Cx_of Try.func21 rfl Try.ntmps21 rfl fun w0 M0 => ?_
  refine JC_seq ?_
  refine JC_region ?_
  refine JL_step rfl rfl rfl (jo_box rfl rfl) fun b1 => ?_
  refine JL_pd rfl (det_assign rfl) ?_
  refine JL_pd rfl (det_assign rfl) ?_
  refine JL_nil ?_
  refine JE_seq ?_
  refine JC_seq ?_
  refine JC_seq ?_
  refine JC_region ?_
  refine JL_dt rfl (det_loadKA rfl Try.isAgg34 Try.sizeOf34 rfl rfl) ?_
  refine JL_step rfl rfl rfl (jo_callv rfl rfl Try.call19 rfl (CheckMachine_j m a)) fun _ => ?_
  refine JL_pd rfl (det_assign rfl) ?_
  refine JL_nil ?_
  refine JE_seq ?_
  refine JC_seq ?_
  refine JC_region ?_
  refine JL_pd rfl (det_move rfl) ?_
  refine JL_pd rfl (det_neq rfl rfl) ?_
  refine JL_nil ?_
  refine JE_seq ?_
  -- stop: cond
  refine JC_ifn rfl (fun h1 => ?_) (fun h1 => ?_)
  · refine JC_seq ?_
    refine JC_region ?_
    refine JL_pd rfl (det_move rfl) ?_
    refine JL_pd rfl (det_assign rfl) ?_
    refine JL_pd rfl (det_assign rfl) ?_
    refine JL_nil ?_
    refine JE_seq ?_
    refine JC_ret ?_
    refine JE_seq_ret ?_
    -- stop: out
    refine JE_out (.inl rfl) () (results2 Try.results21 (res_tmp rfl) (res_tmp rfl)) rfl (List.Perm.refl _) (fun _ _ => trivial)
  · refine JC_skip ?_
    refine JE_seq ?_
    refine JC_seq ?_
    refine JC_region ?_
    refine JL_dt rfl (det_loadKA rfl Try.isAgg34 Try.sizeOf34 rfl rfl) ?_
    -- stop: op  1 t11 := (call (Call (value f59) (t10) (34)))   <0>   194
    exact absurd h1 he
theorem Stands_jo (m : Mc) (a : MA) (he : fault m = 0) : Cr Try.prog 21 [.agg #[I m.states, .slice a.sa m.steps.length a.sc, .slice a.ra m.running.length a.rc, .slice a.ka m.locks.length a.kc]] (KMc m a) (fun q : Option Addr × Nat => .tuple #[.slice q.1 (reachL m m.locks).length q.2, I 0]) (fun q => KSl q.1 (reachL m m.locks).length q.2 encSd (reachL m m.locks)) := by
  have V := valid_of he
  have hl := V.nl
  refine Cx_of Try.func21 rfl Try.ntmps21 rfl fun w0 M0 => ?_
  refine JC_seq ?_
  refine JC_region ?_
  refine JL_step rfl rfl rfl (jo_box rfl rfl) fun b1 => ?_
  refine JL_pd rfl (det_assign rfl) ?_
  refine JL_pd rfl (det_assign rfl) ?_
  refine JL_nil ?_
  refine JE_seq ?_
  refine JC_seq ?_
  refine JC_seq ?_
  refine JC_region ?_
  refine JL_dt rfl (det_loadKA rfl Try.isAgg34 Try.sizeOf34 rfl rfl) ?_
  refine JL_step rfl rfl rfl (jo_callv rfl rfl Try.call19 rfl (CheckMachine_j m a)) fun _ => ?_
  refine JL_pd rfl (det_assign rfl) ?_
  refine JL_nil ?_
  refine JE_seq ?_
  refine JC_seq ?_
  refine JC_region ?_
  refine JL_pd rfl (det_move rfl) ?_
  refine JL_pd rfl (det_neq rfl rfl) ?_
  refine JL_nil ?_
  refine JE_seq ?_
  -- stop: cond
  refine JC_ifn rfl (fun h1 => ?_) (fun h1 => ?_)
  · refine JC_seq ?_
    refine JC_region ?_
    refine JL_pd rfl (det_move rfl) ?_
    refine JL_pd rfl (det_assign rfl) ?_
    refine JL_pd rfl (det_assign rfl) ?_
    refine JL_nil ?_
    refine JE_seq ?_
    refine JC_ret ?_
    refine JE_seq_ret ?_
    -- stop: out
    exact absurd he h1
  · refine JC_skip ?_
    refine JE_seq ?_
    refine JC_seq ?_
    refine JC_region ?_
    refine JL_dt rfl (det_loadKA rfl Try.isAgg34 Try.sizeOf34 rfl rfl) ?_
    -- stop: op  1 t11 := (call (Call (value f59) (t10) (34)))   <0>   194
    refine JL_step rfl rfl rfl (jo_call rfl rfl Try.call59 rfl (hall_j m a (by omega))) fun ⟨hb, mb⟩ => ?_
    -- stop: op  2 t12 := (call (Call (value f60) (t11) (104)))   <1 1>   194
    refine JL_step rfl rfl rfl (jo_call rfl rfl Try.call60 rfl (reach_j m a hb mb V)) fun w' => ?_
    -- stop: op  3 t13 := (call (Call (value f61) (t12) (103)))   <2 2>   194
    refine JL_step rfl rfl rfl (jo_call rfl rfl Try.call61 rfl (wstands_j w'.1)) fun ⟨ra, rc⟩ => ?_
    refine JL_pd rfl (det_assign rfl) ?_
    refine JL_pd rfl (det_assign rfl) ?_
    refine JL_nil ?_
    refine JE_seq ?_
    refine JC_ret ?_
    -- stop: out
    refine JE_out (.inl rfl) (ra, rc) (results2 Try.results21 (res_tmp rfl) (res_tmp rfl)) (by rw [standsW_reach V w'.2]) (List.Perm.refl _) (fun w h => by rw [← standsW_reach V w'.2]; exact h.1)
end Go.Proofs.Ytgbfjcgjcnndpaa

/- Walks of cycle: what a danger is. -/
namespace Go.Proofs.Ytgbfjcgjcnndpaa
open Go.RowKit Go.Shelf

set_option maxRecDepth 100000 in
theorem indexI_j (n : Int) (a : Option Addr) (cap : Nat) (xs : List Int) (hl : xs.length ≤ 9223372036854775807) : Cv Try.prog 99 [.slice a xs.length cap, I n] (KSl a xs.length cap encI xs) (I (idxOf (fun x => decide (n = x)) xs)) := by
  refine Cx_of Try.func99 rfl Try.ntmps99 rfl fun w0 M0 => ?_
  refine JC_seq ?_
  refine JC_region ?_
  refine JL_pd rfl (det_assign rfl) ?_
  refine JL_nil ?_
  refine JE_seq ?_
  refine JC_seq ?_
  refine JC_seq ?_
  refine JC_region ?_
  refine JL_pd rfl (det_move rfl) ?_
  refine JL_pd rfl (det_len rfl Try.runUnderlying23) ?_
  refine JL_pd rfl (det_move rfl) ?_
  refine JL_nil ?_
  refine JE_seq ?_
  refine JC_block ?_
  -- stop: loop
  refine JC_loopF (γ := Nat) (fun i => i ≤ xs.length ∧ (xs.take i).any (fun x => decide (n = x)) = false) (fun i => [(8, I i)]) (fun _ => []) (fun i => xs.length - i) 0 ⟨Nat.zero_le _, rfl⟩ (stsub_consI rfl rfl stsub_nil) ht_nil ?_
  rintro i ⟨hi, hno⟩ K hK
  dsimp only [List.cons_append, List.nil_append]
  refine JC_seq ?_
  refine JC_region ?_
  refine JL_pd rfl (det_lss rfl rfl) ?_
  refine JL_nil ?_
  refine JE_seq ?_
  refine JC_seq ?_
  -- stop: cond
  refine JC_if rfl (fun h1 => ?_) (fun h1 => ?_)
  · have hi2 : i < xs.length := by omega
    refine JC_skip ?_
    refine JE_seq ?_
    refine JC_seq ?_
    refine JC_block ?_
    refine JC_seq ?_
    refine JC_region ?_
    refine JL_pd rfl (det_move rfl) ?_
    refine JL_pd rfl (det_assign rfl) ?_
    refine JL_nil ?_
    refine JE_seq ?_
    refine JC_seq ?_
    refine JC_region ?_
    refine JL_pd rfl (det_move rfl) ?_
    refine JL_pd rfl (det_move rfl) ?_
    refine JL_pd rfl (det_move rfl) ?_
    refine JL_dt rfl (det_indexAddr rfl rfl (by first | rfl | omega) (by first | assumption | omega | decide) Try.runUnderlying23 Try.sizeOf3) ?_
    refine JL_dt rfl (det_loadE rfl (by first | assumption | omega | decide) Try.isAgg3 rfl rfl) ?_
    refine JL_pd rfl (det_eql rfl rfl) ?_
    refine JL_nil ?_
    refine JE_seq ?_
    -- stop: cond
    refine JC_if rfl (fun h2 => ?_) (fun h2 => ?_)
    · refine JC_seq ?_
      refine JC_region ?_
      refine JL_pd rfl (det_move rfl) ?_
      refine JL_pd rfl (det_assign rfl) ?_
      refine JL_nil ?_
      refine JE_seq ?_
      refine JC_ret ?_
      refine JE_block_ret ?_
      refine JE_seq_ret ?_
      refine JE_then_ret ?_
      refine JE_block_ret ?_
      refine JE_seq_ret ?_
      -- stop: out
      refine JE_out (.inl rfl) () (results1 Try.results99 (res_tmp rfl)) (by rw [idxOf_hit hi2 hno (decide_eq_true h2)]) (List.Perm.refl _) (fun _ _ => trivial)
    · refine JC_skip ?_
      refine JE_block ?_
      refine JE_seq ?_
      refine JC_region ?_
      refine JL_pd rfl (det_add rfl rfl ⟨by omega, by omega⟩) ?_
      refine JL_pd rfl (det_move rfl) ?_
      refine JL_nil ?_
      -- stop: end
      refine JE_roundF hK (i + 1) ⟨by omega, by rw [take_snoc hi2, List.any_append, hno]; simp [h2]⟩ (by omega) (stsub_consI rfl (by omega) stsub_nil) ht_nil
  · refine JC_exit ?_
    refine JE_seq_exit ?_
    refine JE_then_exit ?_
    refine JE_block_here ?_
    refine JE_seq ?_
    refine JC_seq ?_
    refine JC_region ?_
    refine JL_pd rfl (det_assign rfl) ?_
    refine JL_nil ?_
    refine JE_seq ?_
    refine JC_ret ?_
    -- stop: out
    obtain rfl : i = xs.length := by omega
    rw [List.take_length] at hno
    refine JE_out (.inl rfl) () (results1 Try.results99 (res_tmp rfl)) (by rw [idxOf_none hno]) (List.Perm.refl _) (fun _ _ => trivial)
theorem containsI_j (n : Int) (a : Option Addr) (cap : Nat) (xs : List Int) (hl : xs.length ≤ 9223372036854775807) : Cv Try.prog 85 [.slice a xs.length cap, I n] (KSl a xs.length cap encI xs) (.bool (decide (n ∈ xs))) := by
  refine Cx_of Try.func85 rfl Try.ntmps85 rfl fun w0 M0 => ?_
  refine JC_seq ?_
  refine JC_region ?_
  refine JL_pd rfl (det_assign rfl) ?_
  refine JL_nil ?_
  refine JE_seq ?_
  refine JC_seq ?_
  refine JC_region ?_
  refine JL_pd rfl (det_move rfl) ?_
  refine JL_pd rfl (det_move rfl) ?_
  -- stop: op  2 t7 := (call (Call (value f99) (t5 t6) (23 3)))   <0 1>   118
  refine JL_step rfl rfl rfl (jo_callv rfl rfl Try.call99 rfl (indexI_j n a cap xs hl)) fun _ => ?_
  refine JL_pd rfl (det_geq rfl rfl) ?_
  refine JL_pd rfl (det_assign rfl) ?_
  refine JL_nil ?_
  refine JE_seq ?_
  refine JC_ret ?_
  -- stop: out
  refine JE_out (.inl rfl) () (results1 Try.results85 (res_tmp rfl)) (by rw [show decide ((0 : Int) ≤ idxOf (fun x => decide (n = x)) xs) = xs.any (fun x => decide (n = x)) from idxOf_any]; congr 1; rw [Bool.eq_iff_iff]; simp) (List.Perm.refl _) (fun _ _ => trivial)
def dangerB (m : Mc) (s : Sd) : Bool := decide (s.sp = 2) && decide (s.st ∈ m.running)
theorem danger_j (m : Mc) (a : MA) (s : Sd) (hl : m.running.length ≤ 9223372036854775807) : Cv Try.prog 63 [.agg #[I m.states, .slice a.sa m.steps.length a.sc, .slice a.ra m.running.length a.rc, .slice a.ka m.locks.length a.kc], .agg #[I s.st, I s.sp]] (KMc m a) (.bool (dangerB m s)) := by
  refine Cx_of Try.func63 rfl Try.ntmps63 rfl fun w0 M0 => ?_
  refine JC_seq ?_
  refine JC_region ?_
  refine JL_step rfl rfl rfl (jo_box rfl rfl) fun b2 => ?_
  refine JL_step rfl rfl rfl (jo_box rfl rfl) fun b3 => ?_
  refine JL_pd rfl (det_assign rfl) ?_
  refine JL_nil ?_
  refine JE_seq ?_
  refine JC_seq ?_
  refine JC_region ?_
  refine JL_pd rfl (det_fieldAddr rfl fo_77_1) ?_
  refine JL_dt rfl (det_loadK rfl Try.isAgg3 rfl) ?_
  refine JL_pd rfl (det_eql rfl rfl) ?_
  refine JL_pd rfl (det_move rfl) ?_
  refine JL_split (d0 := 8) rfl (fun h1 => ?_) (fun h1 => ?_)
  · refine JL_guard rfl rfl h1 ?_
    refine JL_pd rfl (det_fieldAddr rfl fo_34_2) ?_
    refine JL_guard rfl rfl h1 ?_
    refine JL_dt rfl (det_loadK rfl Try.isAgg23 rfl) ?_
    refine JL_guard rfl rfl h1 ?_
    refine JL_pd rfl (det_fieldAddr rfl fo_77_0) ?_
    refine JL_guard rfl rfl h1 ?_
    refine JL_dt rfl (det_loadK rfl Try.isAgg3 rfl) ?_
    refine JL_guard rfl rfl h1 ?_
    refine JL_step rfl rfl rfl (jo_callv rfl rfl Try.call85 rfl (containsI_j _ _ _ m.running hl)) fun _ => ?_
    refine JL_pd rfl (det_pick_t rfl h1 rfl) ?_
    refine JL_pd rfl (det_assign rfl) ?_
    refine JL_nil ?_
    refine JE_seq ?_
    refine JC_ret ?_
    refine JE_out (.inl rfl) () (results1 Try.results63 (res_tmp rfl)) ?_ (List.Perm.refl _) (fun _ _ => trivial)
    (simp_all [dangerB])
  · refine JL_skip rfl rfl h1 rfl ?_
    refine JL_skip rfl rfl h1 rfl ?_
    refine JL_skip rfl rfl h1 rfl ?_
    refine JL_skip rfl rfl h1 rfl ?_
    refine JL_skip rfl rfl h1 rfl ?_
    refine JL_pd rfl (det_pick_f rfl h1 rfl) ?_
    refine JL_pd rfl (det_assign rfl) ?_
    refine JL_nil ?_
    refine JE_seq ?_
    refine JC_ret ?_
    refine JE_out (.inl rfl) () (results1 Try.results63 (res_tmp rfl)) ?_ (List.Perm.refl _) (fun _ _ => trivial)
    (simp_all [dangerB])
end Go.Proofs.Ytgbfjcgjcnndpaa

/- Plain words for cycle: how far stands are from some goal. Nothing is asked. -/
namespace Go.Proofs.Ytgbfjcgjcnndpaa
open Go.RowKit Go.Shelf

/-- So many signals lead to a goal. -/
inductive Pth (m : Mc) (ls : List Lk) (goal : Sd → Bool) : Nat → Sd → Prop
  | zero {s : Sd} : goal s = true → Pth m ls goal 0 s
  | step {n : Nat} {s t : Sd} : Stp m ls s t → Pth m ls goal n t → Pth m ls goal (n + 1) s
def keysN (f : Sd → Option Int) : Nat := all24.countP fun s => (f s).isSome
def costN : Option Int → Nat
  | none => 25
  | some d => d.toNat
def costF (f : Sd → Option Int) : Nat := (all24.map fun s => costN (f s)).sum
theorem keysN_le (f : Sd → Option Int) : keysN f ≤ 24 := by
  unfold keysN
  have := List.countP_le_length (p := fun s => (f s).isSome) (l := all24)
  rw [len_all] at this; exact this
theorem keysN_new {f : Sd → Option Int} {s : Sd} {d : Int} (hs : s ∈ all24) (h : f s = none) : keysN f < keysN (upd f s d) := by
  unfold keysN
  refine countP_lt (fun x _ hx => ?_) ⟨s, hs, by simp [upd], by simp [h]⟩
  unfold upd
  split
  · rfl
  · exact hx
theorem keysN_upd (f : Sd → Option Int) (s : Sd) (d : Int) : keysN f ≤ keysN (upd f s d) := by
  unfold keysN
  refine List.countP_mono_left fun x _ hx => ?_
  unfold upd
  split
  · rfl
  · exact hx
theorem sum_lt {α : Type} {p q : α → Nat} : ∀ {l : List α}, (∀ x ∈ l, p x ≤ q x) → (∃ x ∈ l, p x < q x) → (l.map p).sum < (l.map q).sum
  | a :: l, h, ⟨x, hx, h1⟩ => by
    have hle : ∀ {l : List α}, (∀ x ∈ l, p x ≤ q x) → (l.map p).sum ≤ (l.map q).sum := by
      intro l h
      induction l with
      | nil => simp
      | cons a l ih =>
        have h1 := h a (by simp)
        have h2 := ih fun x hx => h x (by simp [hx])
        simp only [List.map_cons, List.sum_cons]; omega
    have ha := h a (by simp)
    simp only [List.map_cons, List.sum_cons]
    rcases List.mem_cons.1 hx with rfl | hx
    · have := hle fun x hx => h x (List.mem_cons_of_mem _ hx)
      omega
    · have := sum_lt (fun x hx => h x (List.mem_cons_of_mem _ hx)) ⟨x, hx, h1⟩
      omega
theorem costF_upd {f : Sd → Option Int} {s : Sd} {d : Int} (hs : s ∈ all24) (h : d.toNat < costN (f s)) : costF (upd f s d) < costF f := by
  unfold costF
  refine sum_lt (fun x _ => ?_) ⟨s, hs, ?_⟩
  · unfold upd
    split
    · rename_i e; subst e; exact Nat.le_of_lt h
    · exact Nat.le_refl _
  · unfold upd; rw [if_pos rfl]; exact h
/-- What is noted is true. -/
structure FarI (m : Mc) (ls : List Lk) (goal : Sd → Bool) (f : Sd → Option Int) : Prop where
  path : ∀ s d, f s = some d → ∃ n : Nat, d = n ∧ n < keysN f ∧ Pth m ls goal n s ∧ Rch m ls s
/-- Nothing shorter by one signal. -/
def Rlx (f : Sd → Option Int) (s t : Sd) : Prop := ∀ n, f t = some n → ∃ d, f s = some d ∧ d ≤ n + 1
theorem FarI.upd {m : Mc} (V : Valid m) {ls : List Lk} {goal : Sd → Bool} {f : Sd → Option Int} (h : FarI m ls goal f) {s t : Sd} {n : Int} (hs : Rch m ls s) (hst : Stp m ls s t) (ht : f t = some n) (hb : ∀ d, f s = some d → n + 1 < d) :
    FarI m ls goal (upd f s (n + 1)) ∧ costF (Go.Proofs.Ytgbfjcgjcnndpaa.upd f s (n + 1)) < costF f := by
  obtain ⟨k, hk, hlt, hp, hr⟩ := h.path t n ht
  have hin := (hs.inM V).all V
  have hle := keysN_le f
  refine ⟨⟨fun x d hx => ?_⟩, ?_⟩
  · unfold Go.Proofs.Ytgbfjcgjcnndpaa.upd at hx
    split at hx
    · rename_i e; subst e
      cases hx
      refine ⟨k + 1, by omega, ?_, .step hst hp, hs⟩
      cases hf : f x with
      | none => have := keysN_new (d := n + 1) hin hf; omega
      | some d' =>
        have h1 := hb d' hf
        obtain ⟨k', hk', hlt', _⟩ := h.path x d' hf
        have := keysN_upd f x (n + 1); omega
    · obtain ⟨k', h1, h2, h3⟩ := h.path x d hx
      have := keysN_upd f s (n + 1)
      exact ⟨k', h1, by omega, h3⟩
  · refine costF_upd hin ?_
    cases hf : f s with
    | none => show _ < 25; omega
    | some d =>
      have h1 := hb d hf
      obtain ⟨k', hk', _⟩ := h.path s d hf
      show _ < d.toNat
      omega
/-- Between stands, signals and what comes next, in a round. -/
structure Rnd (m : Mc) (goal : Sd → Bool) (L : List Sd) (C : Nat) (i g : Nat) (p : List Sd) (f : Sd → Option Int) (c : Bool) : Prop where
  inv : FarI m m.locks goal f
  zero : ∀ s, Rch m m.locks s → goal s = true → f s = some 0
  le : costF f ≤ C
  lt : c = true → costF f < C
  done : c = false → ∀ s ∈ L.take i, ∀ t, Stp m m.locks s t → Rlx f s t
  sig : c = false → ∀ s, L[i]? = some s → ∀ g' : Nat, g' < g → ∀ t ∈ nextL m m.locks s (g' : Int), Rlx f s t
  now : c = false → ∀ s, L[i]? = some s → ∀ t ∈ p, Rlx f s t
theorem Rnd.skip {m : Mc} {goal : Sd → Bool} {L : List Sd} {C i g : Nat} {p : List Sd} {f : Sd → Option Int} {c : Bool} (h : Rnd m goal L C i g p f c) {s t : Sd} (hs : L[i]? = some s) (hr : Rlx f s t) : Rnd m goal L C i g (p ++ [t]) f c :=
  ⟨h.inv, h.zero, h.le, h.lt, h.done, h.sig, fun hc s' hs' u hu => by
    rw [hs] at hs'; cases hs'
    rcases List.mem_append.1 hu with hu | hu
    · exact h.now hc _ hs u hu
    · rw [List.mem_singleton.1 hu]; exact hr⟩
theorem Rnd.turn {m : Mc} (V : Valid m) {goal : Sd → Bool} {L : List Sd} {C i g : Nat} {p : List Sd} {f : Sd → Option Int} {c : Bool} (h : Rnd m goal L C i g p f c) {s t : Sd} {n : Int} (hs : Rch m m.locks s) (hst : Stp m m.locks s t) (ht : f t = some n) (hb : ∀ d, f s = some d → n + 1 < d) :
    Rnd m goal L C i g (p ++ [t]) (upd f s (n + 1)) true := by
  obtain ⟨h1, h2⟩ := h.inv.upd V hs hst ht hb
  refine ⟨h1, fun x hx hg => ?_, by have := h.le; omega, fun _ => by have := h.le; omega, fun hc => (by cases hc), fun hc => (by cases hc), fun hc => (by cases hc)⟩
  have hz := h.zero x hx hg
  unfold upd
  split
  · rename_i e; subst e
    have := hb 0 hz
    obtain ⟨k, hk, _⟩ := h.inv.path t n ht
    omega
  · exact hz
theorem Rnd.next {m : Mc} {goal : Sd → Bool} {L : List Sd} {C i g : Nat} {f : Sd → Option Int} {c : Bool} {s : Sd} (hs : L[i]? = some s) (h : Rnd m goal L C i g (nextL m m.locks s (g : Int)) f c) : Rnd m goal L C i (g + 1) [] f c :=
  ⟨h.inv, h.zero, h.le, h.lt, h.done, fun hc s' hs' g' hg' t ht => by
    rw [hs] at hs'; cases hs'
    by_cases e : g' = g
    · subst e; exact h.now hc _ hs t ht
    · exact h.sig hc _ hs g' (by omega) t ht, fun _ _ _ t ht => by cases ht⟩
theorem Rnd.after {m : Mc} {goal : Sd → Bool} {L : List Sd} {C i : Nat} {f : Sd → Option Int} {c : Bool} {s : Sd} (hs : L[i]? = some s) (h : Rnd m goal L C i 8 [] f c) : Rnd m goal L C (i + 1) 0 [] f c :=
  ⟨h.inv, h.zero, h.le, h.lt, fun hc s' hs' t hst => by
    obtain ⟨hi, e⟩ := List.getElem?_eq_some_iff.1 hs
    rw [take_snoc hi, e] at hs'
    rcases List.mem_append.1 hs' with hs' | hs'
    · exact h.done hc s' hs' t hst
    · rw [List.mem_singleton.1 hs'] at hst ⊢
      obtain ⟨g, hg, ht⟩ := hst
      exact h.sig hc _ hs g hg t ht, fun _ _ _ g' hg' => by omega, fun _ _ _ t ht => by cases ht⟩
/-- How far stands are from a goal: those that can be, and no others. -/
structure FarOk (m : Mc) (goal : Sd → Bool) (f : Sd → Option Int) : Prop where
  path : ∀ s d, f s = some d → ∃ n : Nat, d = n ∧ n < 24 ∧ Pth m m.locks goal n s ∧ Rch m m.locks s
  least : ∀ n s, Rch m m.locks s → Pth m m.locks goal n s → ∃ d, f s = some d ∧ d ≤ n
theorem Rnd.ok {m : Mc} (V : Valid m) {goal : Sd → Bool} {C g : Nat} {p : List Sd} {f : Sd → Option Int} (h : Rnd m goal (reachL m m.locks) C (reachL m m.locks).length g p f false) : FarOk m goal f := by
  refine ⟨fun s d hd => ?_, fun n s hs hp => ?_⟩
  · obtain ⟨k, h1, h2, h3⟩ := h.inv.path s d hd
    have := keysN_le f
    exact ⟨k, h1, by omega, h3⟩
  · induction hp with
    | zero hg => exact ⟨0, h.zero _ hs hg, by omega⟩
    | @step n s t hst hp ih =>
      obtain ⟨d, h1, h2⟩ := ih (.step hs hst)
      have hin : s ∈ (reachL m m.locks).take (reachL m m.locks).length := by rw [List.take_length]; exact (mem_reachL V).2 hs
      obtain ⟨d', h3, h4⟩ := h.done rfl s hin t hst d h1
      exact ⟨d', h3, by omega⟩
/-- The map at the beginning: the goals of a list. -/
def goalM (goal : Sd → Bool) (L : List Sd) : Sd → Option Int := fun s => if s ∈ L ∧ goal s = true then some 0 else none
theorem goalM_snoc (goal : Sd → Bool) {L : List Sd} {i : Nat} (h : i < L.length) : goalM goal (L.take (i + 1)) = if goal L[i] = true then upd (goalM goal (L.take i)) L[i] 0 else goalM goal (L.take i) := by
  have hm : ∀ s, s ∈ L.take (i + 1) ↔ s ∈ L.take i ∨ s = L[i] := fun s => by rw [take_snoc h, List.mem_append, List.mem_singleton]
  funext s
  unfold goalM upd
  simp only [hm]
  by_cases hg : goal L[i] = true
  · rw [if_pos hg]
    by_cases e : s = L[i]
    · subst e; simp [hg]
    · simp [e]
  · rw [if_neg hg]
    by_cases e : s = L[i]
    · subst e; simp [hg]
    · simp [e]
theorem goalM_rnd {m : Mc} (V : Valid m) (goal : Sd → Bool) : Rnd m goal (reachL m m.locks) (costF (goalM goal (reachL m m.locks)) + 1) 0 0 [] (goalM goal (reachL m m.locks)) true := by
  refine ⟨⟨fun s d hd => ?_⟩, fun s hs hg => ?_, by omega, fun _ => by omega, fun h => (by cases h), fun h => (by cases h), fun h => (by cases h)⟩
  · have hd0 := hd
    unfold goalM at hd
    split at hd
    · rename_i h
      cases hd
      have hr := (mem_reachL V).1 h.1
      refine ⟨0, rfl, ?_, .zero h.2, hr⟩
      unfold keysN
      exact List.countP_pos_iff.2 ⟨s, (hr.inM V).all V, by rw [hd0]; rfl⟩
    · cases hd
  · unfold goalM
    rw [if_pos ⟨(mem_reachL V).2 hs, hg⟩]
theorem Rnd.start {m : Mc} {goal : Sd → Bool} {L : List Sd} {C i g : Nat} {p : List Sd} {f : Sd → Option Int} {c : Bool} (h : Rnd m goal L C i g p f c) : Rnd m goal L (costF f) 0 0 [] f false :=
  ⟨h.inv, h.zero, Nat.le_refl _, fun hc => (by cases hc), fun _ _ hs => by simp at hs, fun _ _ _ _ hg => by omega, fun _ _ _ _ ht => by cases ht⟩
end Go.Proofs.Ytgbfjcgjcnndpaa

/- Plain words for cycle: shortest ways, signal by signal. Nothing is asked. -/
namespace Go.Proofs.Ytgbfjcgjcnndpaa
open Go.RowKit Go.Shelf

/-- The stands behind a signal, from some stands. -/
def behW (m : Mc) (ls : List Lk) (w : Nat → Bool) (g : Int) : Nat → Bool := fun i => (List.range 24).any fun j => w j && decide (sdOf i ∈ nextL m ls (sdOf j) g)
def uniW (a b : Nat → Bool) : Nat → Bool := fun i => a i || b i
def begW : Nat → Bool := fun i => decide (i = 0)
def nxtW (m : Mc) (ls : List Lk) (w : Nat → Bool) : Nat → Bool := fun i => (List.range 8).any fun g => behW m ls w (g : Int) i
def witW (m : Mc) (ls : List Lk) (goal : Sd → Bool) : Nat → (Nat → Bool) → Bool
  | 0, w => (List.range 24).any fun i => w i && goal (sdOf i)
  | k + 1, w => witW m ls goal k (nxtW m ls w)
/-- The least signals, one by one. -/
def wayL (m : Mc) (ls : List Lk) (goal : Sd → Bool) : Nat → (Nat → Bool) → List Int
  | 0, _ => []
  | k + 1, w => match (List.range 8).find? (fun g : Nat => witW m ls goal k (behW m ls w (g : Int))) with
    | some g => (g : Int) :: wayL m ls goal k (behW m ls w (g : Int))
    | none => []
def longO (m : Mc) (ls : List Lk) (goal : Sd → Bool) : Option Nat := (List.range 25).find? fun k => witW m ls goal k begW
def wayO (m : Mc) (ls : List Lk) (goal : Sd → Bool) : Option (List Int) := (longO m ls goal).map fun k => wayL m ls goal k begW
def WIn (m : Mc) (w : Nat → Bool) : Prop := ∀ i, i < 24 → w i = true → InM m (sdOf i)
theorem behW_iff {m : Mc} {ls : List Lk} {w : Nat → Bool} {g : Int} {i : Nat} : behW m ls w g i = true ↔ ∃ j, j < 24 ∧ w j = true ∧ sdOf i ∈ nextL m ls (sdOf j) g := by
  simp only [behW, List.any_eq_true, List.mem_range, Bool.and_eq_true, decide_eq_true_eq]
theorem nxtW_iff {m : Mc} {ls : List Lk} {w : Nat → Bool} {i : Nat} : nxtW m ls w i = true ↔ ∃ j, j < 24 ∧ w j = true ∧ Stp m ls (sdOf j) (sdOf i) := by
  simp only [nxtW, List.any_eq_true, List.mem_range, behW_iff, Stp]
  exact ⟨fun ⟨g, hg, j, hj, h1, h2⟩ => ⟨j, hj, h1, g, hg, h2⟩, fun ⟨j, hj, h1, g, hg, h2⟩ => ⟨g, hg, j, hj, h1, h2⟩⟩
theorem InM.ix {m : Mc} (V : Valid m) {s : Sd} (h : InM m s) : ix s < 24 ∧ sdOf (ix s) = s := by
  have := V.s2
  obtain ⟨a, b, c, d⟩ := h
  exact ⟨ix_lt a (by omega) c d, sd_ix a c d⟩
theorem behW_in {m : Mc} (V : Valid m) {ls : List Lk} {w : Nat → Bool} {g : Int} (h : WIn m w) : WIn m (behW m ls w g) := fun i _ hi => by
  obtain ⟨j, hj, h1, h2⟩ := behW_iff.1 hi
  exact next_in V (h j hj h1) h2
theorem nxtW_in {m : Mc} (V : Valid m) {ls : List Lk} {w : Nat → Bool} (h : WIn m w) : WIn m (nxtW m ls w) := fun i _ hi => by
  obtain ⟨j, hj, h1, g, _, h2⟩ := nxtW_iff.1 hi
  exact next_in V (h j hj h1) h2
theorem begW_in {m : Mc} (V : Valid m) : WIn m begW := fun i _ hi => by
  have : i = 0 := of_decide_eq_true hi
  subst this
  exact zero_in V
theorem witW_iff {m : Mc} (V : Valid m) {ls : List Lk} {goal : Sd → Bool} : ∀ {k : Nat} {w : Nat → Bool}, WIn m w → (witW m ls goal k w = true ↔ ∃ j, j < 24 ∧ w j = true ∧ Pth m ls goal k (sdOf j))
  | 0, w, h => by
    simp only [witW, List.any_eq_true, List.mem_range, Bool.and_eq_true]
    exact ⟨fun ⟨j, hj, h1, h2⟩ => ⟨j, hj, h1, .zero h2⟩, fun ⟨j, hj, h1, h2⟩ => ⟨j, hj, h1, by cases h2; assumption⟩⟩
  | k + 1, w, h => by
    show witW m ls goal k (nxtW m ls w) = true ↔ _
    rw [witW_iff V (nxtW_in V h)]
    constructor
    · rintro ⟨i, hi, h1, h2⟩
      obtain ⟨j, hj, h3, h4⟩ := nxtW_iff.1 h1
      exact ⟨j, hj, h3, .step h4 h2⟩
    · rintro ⟨j, hj, h1, h2⟩
      generalize hs : sdOf j = s at h2
      cases h2 with
      | @step _ _ t hst hp =>
        subst hs
        obtain ⟨g, hg, ht⟩ := hst
        have hin := (next_in V (h j hj h1) ht).ix V
        refine ⟨ix t, hin.1, nxtW_iff.2 ⟨j, hj, h1, ?_⟩, by rw [hin.2]; exact hp⟩
        rw [hin.2]; exact ⟨g, hg, ht⟩
/-- What holds of the stands that a beginning of a shortest way leads to. -/
structure Pre (m : Mc) (goal : Sd → Bool) (k : Nat) (w : Nat → Bool) : Prop where
  rch : ∀ j, j < 24 → w j = true → Rch m m.locks (sdOf j)
  far : ∀ j, j < 24 → w j = true → ∀ n, Pth m m.locks goal n (sdOf j) → k ≤ n
theorem Pre.step {m : Mc} {goal : Sd → Bool} {k : Nat} {w : Nat → Bool} (h : Pre m goal (k + 1) w) {g : Nat} (hg : g < 8) : Pre m goal k (behW m m.locks w (g : Int)) := by
  refine ⟨fun i _ hi => ?_, fun i _ hi n hn => ?_⟩
  · obtain ⟨j, hj, h1, h2⟩ := behW_iff.1 hi
    exact .step (h.rch j hj h1) ⟨g, hg, h2⟩
  · obtain ⟨j, hj, h1, h2⟩ := behW_iff.1 hi
    have := h.far j hj h1 (n + 1) (.step ⟨g, hg, h2⟩ hn)
    omega
theorem Pre.win {m : Mc} (V : Valid m) {goal : Sd → Bool} {k : Nat} {w : Nat → Bool} (h : Pre m goal k w) : WIn m w := fun j hj h1 => (h.rch j hj h1).inM V
/-- Which of them are as far as there are signals left. -/
def Now (f : Sd → Option Int) (k : Nat) (w : Nat → Bool) (s : Sd) : Prop := ∃ j, j < 24 ∧ w j = true ∧ s = sdOf j ∧ f s = some (k : Int)
theorem Pre.now {m : Mc} (V : Valid m) {goal : Sd → Bool} {f : Sd → Option Int} (F : FarOk m goal f) {k : Nat} {w : Nat → Bool} (h : Pre m goal k w) : (∃ s, Now f k w s) ↔ witW m m.locks goal k w = true := by
  rw [witW_iff V (h.win V)]
  constructor
  · rintro ⟨s, j, hj, h1, rfl, h2⟩
    obtain ⟨n, hn, _, hp, _⟩ := F.path _ _ h2
    obtain rfl : k = n := by omega
    exact ⟨j, hj, h1, hp⟩
  · rintro ⟨j, hj, h1, hp⟩
    obtain ⟨d, h2, h3⟩ := F.least k _ (h.rch j hj h1) hp
    obtain ⟨n, hn, _, hp2, _⟩ := F.path _ _ h2
    have := h.far j hj h1 n hp2
    obtain rfl : d = (k : Int) := by omega
    exact ⟨_, j, hj, h1, rfl, h2⟩
theorem Pre.next {m : Mc} (V : Valid m) {goal : Sd → Bool} {f : Sd → Option Int} (F : FarOk m goal f) {k : Nat} {w : Nat → Bool} (h : Pre m goal (k + 1) w) {g : Nat} (hg : g < 8) (t : Sd) :
    Now f k (behW m m.locks w (g : Int)) t ↔ ∃ s, Now f (k + 1) w s ∧ t ∈ nextL m m.locks s (g : Int) ∧ f t = some (k : Int) := by
  constructor
  · rintro ⟨i, hi, h1, rfl, h2⟩
    obtain ⟨j, hj, h3, h4⟩ := behW_iff.1 h1
    obtain ⟨n, hn, _, hp, _⟩ := F.path _ _ h2
    obtain rfl : k = n := by omega
    have hp2 : Pth m m.locks goal (k + 1) (sdOf j) := .step ⟨g, hg, h4⟩ hp
    obtain ⟨d, h5, h6⟩ := F.least _ _ (h.rch j hj h3) hp2
    obtain ⟨n, hn, _, hp3, _⟩ := F.path _ _ h5
    have := h.far j hj h3 n hp3
    obtain rfl : d = ((k + 1 : Nat) : Int) := by omega
    exact ⟨_, ⟨j, hj, h3, rfl, h5⟩, h4, h2⟩
  · rintro ⟨s, ⟨j, hj, h1, rfl, h2⟩, h3, h4⟩
    have hin := (next_in V ((h.rch j hj h1).inM V) h3).ix V
    exact ⟨ix t, hin.1, behW_iff.2 ⟨j, hj, h1, by rw [hin.2]; exact h3⟩, hin.2.symm, h4⟩
/-- There is a signal by which it goes on. -/
theorem Pre.some_ {m : Mc} (V : Valid m) {goal : Sd → Bool} {k : Nat} {w : Nat → Bool} (h : Pre m goal (k + 1) w) (hw : witW m m.locks goal (k + 1) w = true) : ∃ g, g < 8 ∧ witW m m.locks goal k (behW m m.locks w ((g : Nat) : Int)) = true := by
  obtain ⟨j, hj, h1, h2⟩ := (witW_iff V (h.win V)).1 hw
  generalize hs : sdOf j = s at h2
  cases h2 with
  | @step _ _ t hst hp =>
    subst hs
    obtain ⟨g, hg, ht⟩ := hst
    refine ⟨g, hg, (witW_iff V (behW_in V (h.win V))).2 ?_⟩
    have hin := (next_in V (h.win V j hj h1) ht).ix V
    exact ⟨ix t, hin.1, behW_iff.2 ⟨j, hj, h1, by rw [hin.2]; exact ht⟩, by rw [hin.2]; exact hp⟩
theorem find_range {p : Nat → Bool} {n g : Nat} (hg : g < n) (hp : p g = true) (hno : ∀ j, j < g → p j = false) : (List.range n).find? p = some g := by
  rw [List.find?_eq_some_iff_getElem]
  refine ⟨hp, g, by simpa using hg, by simp, fun j hj => ?_⟩
  simp [hno j hj]
theorem wayL_hit {m : Mc} {ls : List Lk} {goal : Sd → Bool} {k g : Nat} {w : Nat → Bool} (hg : g < 8) (hp : witW m ls goal k (behW m ls w (g : Int)) = true) (hno : ∀ j : Nat, j < g → witW m ls goal k (behW m ls w (j : Int)) = false) :
    wayL m ls goal (k + 1) w = (g : Int) :: wayL m ls goal k (behW m ls w (g : Int)) := by
  show (match (List.range 8).find? (fun g : Nat => witW m ls goal k (behW m ls w (g : Int))) with | some g => (g : Int) :: wayL m ls goal k (behW m ls w (g : Int)) | none => []) = _
  rw [find_range hg hp hno]
/-- Out of the distances: how long the shortest way is. -/
theorem FarOk.long {m : Mc} (V : Valid m) {goal : Sd → Bool} {f : Sd → Option Int} (F : FarOk m goal f) : longO m m.locks goal = (f ⟨0, 0⟩).map (·.toNat) := by
  have hw := fun k => witW_iff V (ls := m.locks) (goal := goal) (k := k) (begW_in V)
  have hz : ∀ k, (∃ j, j < 24 ∧ begW j = true ∧ Pth m m.locks goal k (sdOf j)) ↔ Pth m m.locks goal k ⟨0, 0⟩ := fun k =>
    ⟨fun ⟨j, _, h1, h2⟩ => by have : j = 0 := of_decide_eq_true h1; subst this; exact h2, fun h => ⟨0, by omega, rfl, h⟩⟩
  cases hf : f ⟨0, 0⟩ with
  | none =>
    show _ = none
    refine List.find?_eq_none.2 fun k _ hk => ?_
    have := (hz k).1 ((hw k).1 hk)
    obtain ⟨d, h1, _⟩ := F.least k _ .zero this
    rw [hf] at h1; cases h1
  | some d =>
    obtain ⟨n, rfl, hn, hp, _⟩ := F.path _ _ hf
    show _ = some n
    refine find_range (by omega) ((hw n).2 ((hz n).2 hp)) fun j hj => ?_
    cases hk : witW m m.locks goal j begW
    · rfl
    · have := (hz j).1 ((hw j).1 hk)
      obtain ⟨d, h1, h2⟩ := F.least j _ .zero this
      rw [hf] at h1; cases h1
      omega
theorem FarOk.pre {m : Mc} {goal : Sd → Bool} {f : Sd → Option Int} (F : FarOk m goal f) {n : Nat} (h : f ⟨0, 0⟩ = some (n : Int)) : Pre m goal n begW := by
  refine ⟨fun j _ hj => ?_, fun j _ hj k hk => ?_⟩
  · have : j = 0 := of_decide_eq_true hj
    subst this; exact .zero
  · have : j = 0 := of_decide_eq_true hj
    subst this
    obtain ⟨d, h1, h2⟩ := F.least k _ .zero hk
    rw [h] at h1
    cases h1; omega
end Go.Proofs.Ytgbfjcgjcnndpaa

/- Walks of cycle: how far stands are. -/
namespace Go.Proofs.Ytgbfjcgjcnndpaa
open Go.RowKit Go.Shelf

theorem sum_bd {xs : List Int} (h : ∀ x ∈ xs, 0 ≤ x ∧ x ≤ 1000) : 0 ≤ xs.sum ∧ xs.sum ≤ 1000 * xs.length := by
  induction xs with
  | nil => simp
  | cons a l ih =>
    have h1 := h a (by simp)
    have h2 := ih fun x hx => h x (by simp [hx])
    simp only [List.sum_cons, List.length_cons]
    omega
set_option maxRecDepth 100000 in
theorem sum_j (a : Option Addr) (cap : Nat) (xs : List Int) (hl : xs.length ≤ 1000) (hx : ∀ x ∈ xs, 0 ≤ x ∧ x ≤ 1000) : Cv Try.prog 100 [.slice a xs.length cap] (KSl a xs.length cap encI xs) (I xs.sum) := by
  refine Cx_of Try.func100 rfl Try.ntmps100 rfl fun w0 M0 => ?_
  refine JC_seq ?_
  refine JC_region ?_
  refine JL_pd rfl (det_assign rfl) ?_
  refine JL_nil ?_
  refine JE_seq ?_
  refine JC_seq ?_
  refine JC_seq ?_
  refine JC_region ?_
  refine JL_pd rfl (det_move rfl) ?_
  refine JL_pd rfl (det_len rfl Try.runUnderlying23) ?_
  refine JL_pd rfl (det_move rfl) ?_
  refine JL_nil ?_
  refine JE_seq ?_
  refine JC_block ?_
  -- stop: loop
  refine JC_loopF (γ := Nat) (fun i => i ≤ xs.length) (fun i => [(7, I i), (2, I (xs.take i).sum)]) (fun _ => []) (fun i => xs.length - i) 0 (Nat.zero_le _) (stsub_consI rfl rfl (stsub_consI rfl rfl stsub_nil)) ht_nil ?_
  intro i hi K hK
  dsimp only [List.cons_append, List.nil_append]
  refine JC_seq ?_
  refine JC_region ?_
  refine JL_pd rfl (det_lss rfl rfl) ?_
  refine JL_nil ?_
  refine JE_seq ?_
  refine JC_seq ?_
  -- stop: cond
  refine JC_if rfl (fun h1 => ?_) (fun h1 => ?_)
  · have hi2 : i < xs.length := by omega
    have hb := sum_bd (xs := xs.take i) fun x hm => hx x (List.mem_of_mem_take hm)
    rw [List.length_take] at hb
    have hc := hx _ (List.getElem_mem hi2)
    have hs : (xs.take (i + 1)).sum = (xs.take i).sum + xs[i] := by rw [take_snoc hi2, List.sum_append]; simp
    refine JC_skip ?_
    refine JE_seq ?_
    refine JC_seq ?_
    refine JC_block ?_
    refine JC_seq ?_
    refine JC_region ?_
    refine JL_dt rfl (det_indexAddr rfl rfl (by first | rfl | omega) (by first | assumption | omega | decide) Try.runUnderlying23 Try.sizeOf3) ?_
    refine JL_dt rfl (det_loadE rfl (by first | assumption | omega | decide) Try.isAgg3 rfl rfl) ?_
    refine JL_pd rfl (det_assign rfl) ?_
    refine JL_nil ?_
    refine JE_seq ?_
    refine JC_region ?_
    refine JL_pd rfl (det_move rfl) ?_
    refine JL_pd rfl (det_move rfl) ?_
    refine JL_pd rfl (det_add rfl rfl ⟨by omega, by omega⟩) ?_
    refine JL_pd rfl (det_assign rfl) ?_
    refine JL_nil ?_
    refine JE_block ?_
    refine JE_seq ?_
    refine JC_region ?_
    refine JL_pd rfl (det_add rfl rfl ⟨by omega, by omega⟩) ?_
    refine JL_pd rfl (det_move rfl) ?_
    refine JL_nil ?_
    -- stop: end
    refine JE_roundF hK (i + 1) (by omega) (by omega) (stsub_consI rfl (by omega) (stsub_consI rfl hs.symm stsub_nil)) ht_nil
  · obtain rfl : i = xs.length := by omega
    rw [List.take_length]
    refine JC_exit ?_
    refine JE_seq_exit ?_
    refine JE_then_exit ?_
    refine JE_block_here ?_
    refine JE_seq ?_
    refine JC_seq ?_
    refine JC_region ?_
    refine JL_pd rfl (det_move rfl) ?_
    refine JL_pd rfl (det_assign rfl) ?_
    refine JL_nil ?_
    refine JE_seq ?_
    refine JC_ret ?_
    -- stop: out
    refine JE_out (.inl rfl) () (results1 Try.results100 (res_tmp rfl)) rfl (List.Perm.refl _) (fun _ _ => trivial)
theorem sum2_j (b : Nat) (x y : Int) (hx : 0 ≤ x ∧ x ≤ 1000) (hy : 0 ≤ y ∧ y ≤ 1000) : Cx Try.prog 100 [.slice (some ⟨b, 0, none⟩) 2 2] [bx b [I x, I y]] KTrue (fun _ : Unit => I (x + y)) (fun _ => [bx b [I x, I y]]) (fun _ => KTrue) := by
  have h := sum_j (some ⟨b, 0, none⟩) 2 [x, y] (by simp) (by intro z hz; (rcases List.mem_cons.1 hz with e | e); (subst e; exact hx); (rw [List.mem_singleton.1 e]; exact hy))
  rw [show [x, y].sum = x + y by simp] at h
  exact Cx.lend (bx b [I x, I y]) (h.mono (fun w hw => KSl_of_box2 (enc := encI) rfl rfl (by simp [maxLen]) hw.1) fun _ _ h => h)
/-- At the head of the rounds. -/
abbrev HeadI (m : Mc) (goal : Sd → Bool) (L : List Sd) (c : Bool) (f : Sd → Option Int) : Prop := (∃ C i g p c0, Rnd m goal L C i g p f c0) ∧ (c = false → FarOk m goal f)
theorem wreach_j (m : Mc) (V : Valid m) (w' : { w' // Vis m (fun _ => false) ⟨0, 0⟩ w' }) : Cr Try.prog 61 [.agg (encW 24 w'.1).toArray] KTrue (fun q : Option Addr × Nat => .slice q.1 (reachL m m.locks).length q.2) (fun q => KSl q.1 (reachL m m.locks).length q.2 encSd (reachL m m.locks)) := by
  have := wstands_j w'.1
  rwa [standsW_reach V w'.2] at this
theorem reach_len (m : Mc) (ls : List Lk) : (reachL m ls).length ≤ 24 := by
  obtain ⟨p, hp⟩ := levL_form m ls 24
  show (levL m ls 24).length ≤ 24
  rw [hp]; exact List.length_filter_le _ _
set_option maxRecDepth 100000 in
set_option maxHeartbeats 1000000 in
theorem far_j (m : Mc) (a : MA) (b mb : Nat) (V : Valid m) (goal : Sd → Bool) (F : Nat) (fs cs : List Value) (Kf : World → Prop) (eF : ∀ args w, (callFunc F args).run Try.prog w = .ok (.enter F args) w) (hF : ∀ x : Sd, Cv Try.prog F (fs ++ [.agg #[I x.st, I x.sp]] ++ cs) Kf (.bool (goal x))) :
    Cr Try.prog 86 [pt b, .func (.func F) fs.toArray cs.toArray] (KAnd (KHall m a b mb) Kf) (fun q : Nat × { f // FarOk m goal f } => .map (some q.1)) (fun q => KMap q.1 ekSd ekI q.2.1) := by
  have hl := V.ns
  have hlen := reach_len m m.locks
  have hmem := fun t => mem_reachL V (ls := m.locks) (t := t)
  have hgr := goalM_rnd V goal
  have hok := fun C g p f (h : Rnd m goal (reachL m m.locks) C (reachL m m.locks).length g p f false) => h.ok V
  have hwr := fun w' => wreach_j m V w'
  generalize reachL m m.locks = L at hlen hmem hgr hok hwr
  refine Cx_of Try.func86 rfl Try.ntmps86 rfl fun w0 M0 => ?_
  refine JC_seq ?_
  refine JC_region ?_
  refine JL_pd rfl (det_assign rfl) ?_
  refine JL_nil ?_
  refine JE_seq ?_
  refine JC_seq ?_
  refine JC_region ?_
  refine JL_step rfl rfl rfl (jo_makeMap ekSd ekI) fun b18 => ?_
  refine JL_step rfl rfl rfl (jo_alloc0 Try.zeroValue133 rfl) fun b5 => ?_
  refine JL_step0 rfl rfl (jo_store rfl rfl rfl (by first | (simp only [splice_norm]; done) | (simp only [splice_norm]; rfl) | rfl) Try.sizeOf133 rfl rfl) fun _ => ?_
  refine JL_nil ?_
  refine JE_seq ?_
  refine JC_seq ?_
  refine JC_region ?_
  refine JL_pd rfl (det_move rfl) ?_
  -- stop: op  1 t20 := (call (Call (value f60) (t19) (104)))   <0>   200
  refine JL_step rfl rfl rfl (jo_call rfl rfl Try.call60 rfl (reach_j m a b mb V)) fun w' => ?_
  -- stop: op  2 t21 := (call (Call (value f61) (t20) (103)))   <1 1>   200
  refine JL_step rfl rfl rfl (jo_call rfl rfl Try.call61 rfl (hwr w')) fun ⟨ra, rc⟩ => ?_
  refine JL_pd rfl (det_assign rfl) ?_
  refine JL_nil ?_
  refine JE_seq ?_
  refine JC_seq ?_
  refine JC_seq ?_
  refine JC_region ?_
  refine JL_pd rfl (det_move rfl) ?_
  refine JL_pd rfl (det_len rfl Try.runUnderlying36) ?_
  refine JL_pd rfl (det_move rfl) ?_
  refine JL_nil ?_
  refine JE_seq ?_
  refine JC_block ?_
  -- stop: loop
  dsimp only [List.cons_append, List.nil_append]
  refine JC_keep b5 noFp ?_
  refine JC_loopF (γ := Nat) (fun i => i ≤ L.length) (fun i => [(24, I i)]) (fun i => [mp b18 ekSd ekI (goalM goal (L.take i))]) (fun i => L.length - i) 0 (Nat.zero_le _) (stsub_consI rfl rfl stsub_nil) (ht_mp (by funext x; simp [goalM]) ht_nil) ?_
  intro i hi K hK
  dsimp only [List.cons_append, List.nil_append]
  refine JC_seq ?_
  refine JC_region ?_
  refine JL_pd rfl (det_lss rfl rfl) ?_
  refine JL_nil ?_
  refine JE_seq ?_
  refine JC_seq ?_
  -- stop: cond
  refine JC_if rfl (fun h1 => ?_) (fun h1 => ?_)
  · have hi2 : i < L.length := by omega
    refine JC_skip ?_
    refine JE_seq ?_
    refine JC_seq ?_
    refine JC_block ?_
    refine JC_seq ?_
    refine JC_region ?_
    refine JL_dt rfl (det_indexAddr rfl rfl (by first | rfl | omega) (by first | assumption | omega | decide) Try.runUnderlying36 Try.sizeOf77) ?_
    refine JL_dt rfl (det_loadEA rfl (by first | assumption | omega | decide) Try.isAgg77 Try.sizeOf77 rfl rfl rfl) ?_
    refine JL_step rfl rfl rfl (jo_alloc0 Try.zeroValue77 rfl) fun b8 => ?_
    refine JL_step0 rfl rfl (jo_store rfl rfl rfl (by first | (simp only [splice_norm]; done) | (simp only [splice_norm]; rfl) | rfl) Try.sizeOf77 rfl rfl) fun _ => ?_
    refine JL_nil ?_
    refine JE_seq ?_
    refine JC_seq ?_
    refine JC_region ?_
    refine JL_pd rfl (det_move rfl) ?_
    refine JL_dt rfl (det_loadKA rfl Try.isAgg77 Try.sizeOf77 rfl rfl) ?_
    -- stop: op  2 t30 := (call (Call (value t28) (t29) (77)))   <0 1>   202
    refine JL_step rfl rfl rfl (jo_callv rfl rfl eF rfl (hF L[i])) fun _ => ?_
    refine JL_nil ?_
    refine JE_seq ?_
    -- stop: cond
    refine JC_cond rfl (fun h2 => ?_) (fun h2 => ?_)
    · refine JC_region ?_
      refine JL_dt rfl (det_loadK rfl Try.isAgg133 rfl) ?_
      refine JL_dt rfl (det_loadKA rfl Try.isAgg77 Try.sizeOf77 rfl rfl) ?_
      refine JL_step0 rfl rfl (jo_mapUpdate (ek := ekSd) (ev := ekI) L[i] 0 (.inl rfl) rfl rfl rfl goodSd Try.underlying133) fun _ => ?_
      refine JL_nil ?_
      refine JE_block ?_
      refine JE_seq ?_
      refine JC_region ?_
      refine JL_pd rfl (det_add rfl rfl ⟨by omega, by omega⟩) ?_
      refine JL_pd rfl (det_move rfl) ?_
      refine JL_nil ?_
      -- stop: end
      refine JE_roundF hK (i + 1) (by omega) (by omega) (stsub_consI rfl (by omega) stsub_nil) (ht_mp (by rw [goalM_snoc goal hi2, if_pos h2]) ht_nil)
    · refine JC_skip ?_
      refine JE_block ?_
      refine JE_seq ?_
      refine JC_region ?_
      refine JL_pd rfl (det_add rfl rfl ⟨by omega, by omega⟩) ?_
      refine JL_pd rfl (det_move rfl) ?_
      refine JL_nil ?_
      -- stop: end
      refine JE_roundF hK (i + 1) (by omega) (by omega) (stsub_consI rfl (by omega) stsub_nil) (ht_mp (by rw [goalM_snoc goal hi2, if_neg (by simp [h2])]) ht_nil)
  · obtain rfl : i = L.length := by omega
    rw [List.take_length]
    refine JC_exit ?_
    refine JE_seq_exit ?_
    refine JE_then_exit ?_
    refine JE_block_here ?_
    refine JE_seq ?_
    refine JC_seq ?_
    refine JC_seq ?_
    refine JC_region ?_
    refine JL_step rfl rfl rfl (jo_alloc0 Try.zeroValue4 rfl) fun b9 => ?_
    refine JL_step0 rfl rfl (jo_store rfl rfl rfl (by first | (simp only [splice_norm]; done) | (simp only [splice_norm]; rfl) | rfl) Try.sizeOf4 rfl rfl) fun _ => ?_
    refine JL_nil ?_
    refine JE_seq ?_
    refine JC_block ?_
    -- stop: loop
    refine JC_loopF (γ := Nat × Bool × (Sd → Option Int)) (fun q => HeadI m goal L q.2.1 q.2.2) (fun q => [(9, pt q.1)]) (fun q => [bx q.1 [.bool q.2.1], mp b18 ekSd ekI q.2.2]) (fun q => if q.2.1 = true then costF q.2.2 + 1 else 0) (b9, true, goalM goal L) ⟨⟨_, _, _, _, _, hgr⟩, fun h => (by cases h)⟩ (stsub_cons rfl stsub_nil) (ht_cons (ht_cons ht_nil)) ?_
    rintro ⟨t9, c0, f0⟩ ⟨⟨C0, i0, g0, p0, c00, hr0⟩, hdone⟩ K hK
    dsimp only [List.cons_append, List.nil_append] at hdone ⊢
    refine JC_seq ?_
    refine JC_seq ?_
    refine JC_region ?_
    refine JL_dt rfl (det_loadK rfl Try.isAgg4 rfl) ?_
    refine JL_nil ?_
    refine JE_seq ?_
    -- stop: cond
    refine JC_cond rfl (fun hc => ?_) (fun hc => ?_)
    · subst hc
      refine JC_skip ?_
      refine JE_seq ?_
      refine JC_seq ?_
      refine JC_block ?_
      refine JC_seq ?_
      refine JC_region ?_
      refine JL_step0 rfl rfl (jo_store rfl rfl rfl (by first | (simp only [splice_norm]; done) | (simp only [splice_norm]; rfl) | rfl) Try.sizeOf4 rfl rfl) fun _ => ?_
      refine JL_nil ?_
      refine JE_seq ?_
      refine JC_seq ?_
      refine JC_region ?_
      refine JL_pd rfl (det_move rfl) ?_
      refine JL_pd rfl (det_len rfl Try.runUnderlying36) ?_
      refine JL_pd rfl (det_move rfl) ?_
      refine JL_nil ?_
      refine JE_seq ?_
      refine JC_block ?_
      -- stop: loop
      refine JC_loopF (γ := Nat × Bool × (Sd → Option Int)) (fun q => q.1 ≤ L.length ∧ Rnd m goal L (costF f0) q.1 0 [] q.2.2 q.2.1) (fun q => [(37, I q.1)]) (fun q => [bx t9 [.bool q.2.1], mp b18 ekSd ekI q.2.2]) (fun q => L.length - q.1) (0, false, f0) ⟨Nat.zero_le _, hr0.start⟩ (stsub_consI rfl rfl stsub_nil) (ht_cons (ht_cons ht_nil)) ?_
      rintro ⟨i, c, f⟩ ⟨hi, hr⟩ K2 hK2
      dsimp only [List.cons_append, List.nil_append] at hi hr ⊢
      refine JC_seq ?_
      refine JC_region ?_
      refine JL_pd rfl (det_lss rfl rfl) ?_
      refine JL_nil ?_
      refine JE_seq ?_
      refine JC_seq ?_
      -- stop: cond
      refine JC_if rfl (fun h2 => ?_) (fun h2 => ?_)
      · have hi2 : i < L.length := by omega
        have hs : L[i]? = some L[i] := List.getElem?_eq_getElem hi2
        have hrch := (hmem _).1 (List.getElem_mem hi2)
        have hin := hrch.inM V
        generalize hse : L[i] = s at hs hrch hin
        refine JC_skip ?_
        refine JE_seq ?_
        refine JC_seq ?_
        refine JC_block ?_
        refine JC_seq ?_
        refine JC_region ?_
        refine JL_dt rfl (det_indexAddr rfl rfl (by first | rfl | omega) (by first | assumption | omega | decide) Try.runUnderlying36 Try.sizeOf77) ?_
        refine JL_dt rfl (det_loadEA (vs := [I s.st, I s.sp]) rfl (by first | assumption | omega | decide) Try.isAgg77 Try.sizeOf77 rfl (by rw [← hse]; rfl) rfl) ?_
        refine JL_step rfl rfl rfl (jo_alloc0 Try.zeroValue77 rfl) fun b11 => ?_
        refine JL_step0 rfl rfl (jo_store rfl rfl rfl (by first | (simp only [splice_norm]; done) | (simp only [splice_norm]; rfl) | rfl) Try.sizeOf77 rfl rfl) fun _ => ?_
        refine JL_nil ?_
        refine JE_seq ?_
        refine JC_seq ?_
        refine JC_region ?_
        refine JL_pd rfl (det_move rfl) ?_
        refine JL_nil ?_
        refine JE_seq ?_
        refine JC_block ?_
        -- stop: loop
        refine JC_keep b11 noFp ?_
        refine JC_loopF (γ := Nat × Bool × (Sd → Option Int)) (fun q => q.1 ≤ 8 ∧ Rnd m goal L (costF f0) i q.1 [] q.2.2 q.2.1) (fun q => [(41, I q.1)]) (fun q => [bx t9 [.bool q.2.1], mp b18 ekSd ekI q.2.2]) (fun q => 8 - q.1) (0, c, f) ⟨Nat.zero_le _, hr⟩ (stsub_consI rfl rfl stsub_nil) (ht_cons (ht_cons ht_nil)) ?_
        rintro ⟨g, c1, f1⟩ ⟨hg, hr1⟩ K3 hK3
        dsimp only [List.cons_append, List.nil_append] at hg hr1 ⊢
        refine JC_seq ?_
        refine JC_region ?_
        refine JL_pd rfl (det_lss rfl rfl) ?_
        refine JL_nil ?_
        refine JE_seq ?_
        refine JC_seq ?_
        -- stop: cond
        refine JC_if rfl (fun h3 => ?_) (fun h3 => ?_)
        · have hg2 : g < 8 := by omega
          refine JC_skip ?_
          refine JE_seq ?_
          refine JC_seq ?_
          refine JC_block ?_
          refine JC_seq ?_
          refine JC_region ?_
          refine JL_pd rfl (det_move rfl) ?_
          refine JL_pd rfl (det_assign rfl) ?_
          refine JL_nil ?_
          refine JE_seq ?_
          refine JC_seq ?_
          refine JC_region ?_
          refine JL_pd rfl (det_move rfl) ?_
          refine JL_dt rfl (det_loadKA rfl Try.isAgg77 Try.sizeOf77 rfl rfl) ?_
          refine JL_pd rfl (det_move rfl) ?_
          refine JL_step rfl rfl rfl (jo_call rfl rfl Try.call74 rfl (next_j b s _)) fun x47 => ?_
          refine JL_nil ?_
          refine JE_seq ?_
          refine JC_block ?_
          -- stop: rangeFunc
          have hit := next_it m a s (g : Int) b mb x47.1 x47.2.1 x47.2.2 (by omega) (by obtain ⟨_, _, q1, q2⟩ := hin; omega)
          refine JC_rangeI (γ := Bool × (Sd → Option Int)) (β := Nat) rfl rfl rfl rfl Try.call93 hit (perm2 (bx t9 [.bool c1]) (mp b18 ekSd ekI f1)) (fun w _ h => Knows.know w h) (fun _ => rfl) ?_
            (fun p q => Rnd m goal L (costF f0) i g p q.2 q.1) (fun _ _ _ => False) (fun q => [bx t9 [.bool q.1], mp b18 ekSd ekI q.2]) (c1, f1) hr1 rfl
            (fun x t => [(13, pt t), (5, pt b5), (11, pt b11), (9, pt t9)]) (fun x t => [bx t [I x.st, I x.sp]]) ?_ ?_ ?_ ?_
          · show ∀ p ∈ [48], p < 84
            decide
          · intro l' x W K0 hK0
            refine JC_region ?_
            refine JL_step rfl rfl rfl (jo_alloc0 Try.zeroValue77 rfl) fun b13 => ?_
            refine JL_step0 rfl rfl (jo_store rfl rfl rfl (by first | (simp only [splice_norm]; done) | (simp only [splice_norm]; rfl) | rfl) Try.sizeOf77 rfl rfl) fun _ => ?_
            refine JL_nil ?_
            -- stop: end
            exact JE_asg (hK0 b13) (stsub_cons rfl (stsub_cons rfl (stsub_cons rfl (stsub_cons rfl stsub_nil)))) (hsub_cons hsub_nil) (fun _ h => trivial)
          · rintro l' p x ⟨c2, f2⟩ t W K1 QX hr2 hpx hK1 _
            dsimp only at hr2
            dsimp only [List.cons_append, List.nil_append]
            have hx : x ∈ nextL m m.locks s (g : Int) := hpx.subset (by simp)
            have hst : Stp m m.locks s x := ⟨g, hg2, hx⟩
            cases hfx : f2 x with
            | none =>
              refine JC_block ?_
              refine JC_seq ?_
              refine JC_region ?_
              refine JL_dt rfl (det_loadK rfl Try.isAgg133 rfl) ?_
              refine JL_dt rfl (det_loadKA rfl Try.isAgg77 Try.sizeOf77 rfl rfl) ?_
              refine JL_dt rfl (det_lookup2N (ek := ekSd) (ev := ekI) hfx rfl rfl goodSd Try.underlying133 Try.zeroValue3) ?_
              refine JL_pd rfl (det_move rfl) ?_
              refine JL_pd rfl (det_extract rfl rfl) ?_
              refine JL_pd rfl (det_extract rfl rfl) ?_
              refine JL_pd rfl (det_assign rfl) ?_
              refine JL_pd rfl (det_assign rfl) ?_
              refine JL_nil ?_
              refine JE_seq ?_
              refine JC_seq ?_
              refine JC_region ?_
              refine JL_dt rfl (det_loadK rfl Try.isAgg133 rfl) ?_
              refine JL_dt rfl (det_loadKA rfl Try.isAgg77 Try.sizeOf77 rfl rfl) ?_
              refine JL_dt rfl (det_lookup2 (ek := ekSd) (ev := ekI) s rfl rfl goodSd Try.underlying133 Try.zeroValue3) ?_
              refine JL_pd rfl (det_move rfl) ?_
              refine JL_pd rfl (det_extract rfl rfl) ?_
              refine JL_pd rfl (det_extract rfl rfl) ?_
              refine JL_pd rfl (det_assign rfl) ?_
              refine JL_pd rfl (det_assign rfl) ?_
              refine JL_nil ?_
              refine JE_seq ?_
              refine JC_seq ?_
              refine JC_region ?_
              refine JL_pd rfl (det_move rfl) ?_
              refine JL_pd rfl (det_move rfl) ?_
              -- stop: guard 1
              refine JL_is (d0 := 62) false rfl (by rfl) (fun g1 => ?_)
              refine JL_skip rfl rfl g1 rfl ?_
              refine JL_skip rfl rfl g1 rfl ?_
              refine JL_skip rfl rfl g1 rfl ?_
              refine JL_skipU rfl rfl rfl ?_
              refine JL_skipU rfl rfl rfl ?_
              refine JL_skipU rfl rfl rfl ?_
              refine JL_skipU rfl rfl rfl ?_
              refine JL_skipU rfl rfl rfl ?_
              refine JL_skip rfl rfl g1 rfl ?_
              refine JL_pd rfl (det_pick_f rfl g1 rfl) ?_
              refine JL_nil ?_
              refine JE_seq ?_
              refine JC_condF rfl rfl ?_
              refine JC_skip ?_
              refine JE_block ?_
              -- stop: end
              refine JE_next (fun st' R' a' W' => hK1 (c2, f2) (hr2.skip hs fun n h => by rw [hfx] at h; cases h) st' R' a' W') ⟨_, ht_cons (ht_cons ht_nil)⟩
            | some n =>
              obtain ⟨n', hn1, hn2, _⟩ := hr2.inv.path x n hfx
              have hkn := keysN_le f2
              cases hfs : f2 s with
              | none =>
                refine JC_block ?_
                refine JC_seq ?_
                refine JC_region ?_
                refine JL_dt rfl (det_loadK rfl Try.isAgg133 rfl) ?_
                refine JL_dt rfl (det_loadKA rfl Try.isAgg77 Try.sizeOf77 rfl rfl) ?_
                refine JL_dt rfl (det_lookup2S (ek := ekSd) (ev := ekI) hfx rfl rfl goodSd Try.underlying133 Try.zeroValue3) ?_
                refine JL_pd rfl (det_move rfl) ?_
                refine JL_pd rfl (det_extract rfl rfl) ?_
                refine JL_pd rfl (det_extract rfl rfl) ?_
                refine JL_pd rfl (det_assign rfl) ?_
                refine JL_pd rfl (det_assign rfl) ?_
                refine JL_nil ?_
                refine JE_seq ?_
                refine JC_seq ?_
                refine JC_region ?_
                refine JL_dt rfl (det_loadK rfl Try.isAgg133 rfl) ?_
                refine JL_dt rfl (det_loadKA rfl Try.isAgg77 Try.sizeOf77 rfl rfl) ?_
                refine JL_dt rfl (det_lookup2N (ek := ekSd) (ev := ekI) hfs rfl rfl goodSd Try.underlying133 Try.zeroValue3) ?_
                refine JL_pd rfl (det_move rfl) ?_
                refine JL_pd rfl (det_extract rfl rfl) ?_
                refine JL_pd rfl (det_extract rfl rfl) ?_
                refine JL_pd rfl (det_assign rfl) ?_
                refine JL_pd rfl (det_assign rfl) ?_
                refine JL_nil ?_
                refine JE_seq ?_
                refine JC_seq ?_
                refine JC_region ?_
                refine JL_pd rfl (det_move rfl) ?_
                refine JL_pd rfl (det_move rfl) ?_
                -- stop: guard 1
                refine JL_is (d0 := 62) true rfl (by rfl) (fun g1 => ?_)
                refine JL_guard rfl rfl g1 ?_
                refine JL_pd rfl (det_move rfl) ?_
                refine JL_guard rfl rfl g1 ?_
                refine JL_pd rfl (det_not rfl) ?_
                refine JL_guard rfl rfl g1 ?_
                refine JL_pd rfl (det_move rfl) ?_
                -- stop: guard 4
                refine JL_is (d0 := 65) true rfl (by rfl) (fun g2 => ?_)
                refine JL_skip rfl rfl g2 rfl ?_
                refine JL_skip rfl rfl g2 rfl ?_
                refine JL_skip rfl rfl g2 rfl ?_
                refine JL_skip rfl rfl g2 rfl ?_
                refine JL_skip rfl rfl g2 rfl ?_
                refine JL_guard rfl rfl g1 ?_
                refine JL_pd rfl (det_pick_t rfl g2 rfl) ?_
                refine JL_pd rfl (det_pick_t rfl g1 rfl) ?_
                refine JL_nil ?_
                refine JE_seq ?_
                refine JC_condT rfl rfl ?_
                refine JC_draw [5, 7, 8] (by kernel_rfl) ?_
                refine JA_dt (i := 0) rfl (by kernel_rfl) (by kernel_rfl) rfl rfl (det_loadK rfl Try.isAgg133 rfl) ?_
                refine JA_dt (i := 1) rfl (by kernel_rfl) (by kernel_rfl) rfl rfl (det_loadKA rfl Try.isAgg77 Try.sizeOf77 rfl rfl) ?_
                refine JA_pd (i := 2) rfl (by kernel_rfl) rfl rfl (det_move rfl) ?_
                refine JA_one (i := 3) (by kernel_rfl) rfl rfl (jo_buildSlice rfl (bsl_23_2_0_1 _ _)) (fun _ => ⟨hsub_drop 1 rfl, fun _ h => h⟩) fun b76 => ?_
                refine JA_one (i := 4) (by kernel_rfl) rfl rfl (jo_callx rfl rfl Try.call100 rfl (sum2_j b76 n 1 (by omega) (by decide)) (perm_bx b76)) (fun _ => ⟨by first | exact hsub_drop 0 rfl | exact hsub_all, fun _ h => h.2⟩) fun x77 => ?_
                refine JA_tail (i := 5) (by kernel_rfl) rfl rfl rfl rfl (jo_mapEntry (ek := ekSd) (ev := ekI) s 0 rfl rfl goodSd Try.underlying133 Try.zeroValue3) fun b78 => ?_
                refine JT_pd (i := 6) rfl (by kernel_rfl) rfl rfl (det_extract rfl rfl) ?_
                refine JT_one (i := 7) (by kernel_rfl) rfl rfl (jo_entryStore (ek := ekSd) (ev := ekI) (n + 1) rfl rfl rfl goodSd Try.underlying133) fun _ => ?_
                refine JT_one (i := 8) (by kernel_rfl) rfl rfl (jo_store rfl rfl rfl (by first | (simp only [splice_norm]; done) | (simp only [splice_norm]; rfl) | rfl) Try.sizeOf4 rfl rfl) fun _ => ?_
                refine JT_done (by kernel_rfl) ?_
                refine JE_block ?_
                -- stop: end
                refine JE_next (fun st' R' a' W' => hK1 (true, upd f2 s (n + 1)) (hr2.turn V hrch hst hfx fun d hd => by rw [hfs] at hd; cases hd) st' R' a' W') ⟨_, ht_cons (ht_mp (by rw [upd_upd]) ht_nil)⟩
              | some d =>
                refine JC_block ?_
                refine JC_seq ?_
                refine JC_region ?_
                refine JL_dt rfl (det_loadK rfl Try.isAgg133 rfl) ?_
                refine JL_dt rfl (det_loadKA rfl Try.isAgg77 Try.sizeOf77 rfl rfl) ?_
                refine JL_dt rfl (det_lookup2S (ek := ekSd) (ev := ekI) hfx rfl rfl goodSd Try.underlying133 Try.zeroValue3) ?_
                refine JL_pd rfl (det_move rfl) ?_
                refine JL_pd rfl (det_extract rfl rfl) ?_
                refine JL_pd rfl (det_extract rfl rfl) ?_
                refine JL_pd rfl (det_assign rfl) ?_
                refine JL_pd rfl (det_assign rfl) ?_
                refine JL_nil ?_
                refine JE_seq ?_
                refine JC_seq ?_
                refine JC_region ?_
                refine JL_dt rfl (det_loadK rfl Try.isAgg133 rfl) ?_
                refine JL_dt rfl (det_loadKA rfl Try.isAgg77 Try.sizeOf77 rfl rfl) ?_
                refine JL_dt rfl (det_lookup2S (ek := ekSd) (ev := ekI) hfs rfl rfl goodSd Try.underlying133 Try.zeroValue3) ?_
                refine JL_pd rfl (det_move rfl) ?_
                refine JL_pd rfl (det_extract rfl rfl) ?_
                refine JL_pd rfl (det_extract rfl rfl) ?_
                refine JL_pd rfl (det_assign rfl) ?_
                refine JL_pd rfl (det_assign rfl) ?_
                refine JL_nil ?_
                refine JE_seq ?_
                refine JC_seq ?_
                refine JC_region ?_
                refine JL_pd rfl (det_move rfl) ?_
                refine JL_pd rfl (det_move rfl) ?_
                -- stop: guard 1
                refine JL_is (d0 := 62) true rfl (by rfl) (fun g1 => ?_)
                refine JL_guard rfl rfl g1 ?_
                refine JL_pd rfl (det_move rfl) ?_
                refine JL_guard rfl rfl g1 ?_
                refine JL_pd rfl (det_not rfl) ?_
                refine JL_guard rfl rfl g1 ?_
                refine JL_pd rfl (det_move rfl) ?_
                -- stop: guard 4
                refine JL_is (d0 := 65) false rfl (by rfl) (fun g2 => ?_)
                refine JL_guard rfl rfl g2 ?_
                refine JL_pd rfl (det_move rfl) ?_
                refine JL_guard rfl rfl g2 ?_
                refine JL_step rfl rfl rfl (jo_buildSlice rfl (bsl_23_2_0_1 _ _)) fun b67 => ?_
                refine JL_guard rfl rfl g2 ?_
                refine JL_step rfl rfl rfl (jo_callx rfl rfl Try.call100 rfl (sum2_j b67 n 1 (by omega) (by decide)) (perm_bx b67)) fun x68 => ?_
                refine JL_guard rfl rfl g2 ?_
                refine JL_pd rfl (det_move rfl) ?_
                refine JL_guard rfl rfl g2 ?_
                refine JL_pd rfl (det_lss rfl rfl) ?_
                refine JL_guard rfl rfl g1 ?_
                refine JL_pd rfl (det_pick_f rfl g2 rfl) ?_
                refine JL_pd rfl (det_pick_t rfl g1 rfl) ?_
                refine JL_nil ?_
                refine JE_seq ?_
                -- stop: cond
                refine JC_if rfl (fun h4 => ?_) (fun h4 => ?_)
                · refine JC_draw [5, 7, 8] (by kernel_rfl) ?_
                  refine JA_dt (i := 0) rfl (by kernel_rfl) (by kernel_rfl) rfl rfl (det_loadK rfl Try.isAgg133 rfl) ?_
                  refine JA_dt (i := 1) rfl (by kernel_rfl) (by kernel_rfl) rfl rfl (det_loadKA rfl Try.isAgg77 Try.sizeOf77 rfl rfl) ?_
                  refine JA_pd (i := 2) rfl (by kernel_rfl) rfl rfl (det_move rfl) ?_
                  refine JA_one (i := 3) (by kernel_rfl) rfl rfl (jo_buildSlice rfl (bsl_23_2_0_1 _ _)) (fun _ => ⟨hsub_drop 1 rfl, fun _ h => h⟩) fun b76 => ?_
                  refine JA_one (i := 4) (by kernel_rfl) rfl rfl (jo_callx rfl rfl Try.call100 rfl (sum2_j b76 n 1 (by omega) (by decide)) (perm_bx b76)) (fun _ => ⟨by first | exact hsub_drop 0 rfl | exact hsub_all, fun _ h => h.2⟩) fun x77 => ?_
                  refine JA_tail (i := 5) (by kernel_rfl) rfl rfl rfl rfl (jo_mapEntry (ek := ekSd) (ev := ekI) s 0 rfl rfl goodSd Try.underlying133 Try.zeroValue3) fun b78 => ?_
                  refine JT_pd (i := 6) rfl (by kernel_rfl) rfl rfl (det_extract rfl rfl) ?_
                  refine JT_one (i := 7) (by kernel_rfl) rfl rfl (jo_entryStore (ek := ekSd) (ev := ekI) (n + 1) rfl rfl rfl goodSd Try.underlying133) fun _ => ?_
                  refine JT_one (i := 8) (by kernel_rfl) rfl rfl (jo_store rfl rfl rfl (by first | (simp only [splice_norm]; done) | (simp only [splice_norm]; rfl) | rfl) Try.sizeOf4 rfl rfl) fun _ => ?_
                  refine JT_done (by kernel_rfl) ?_
                  refine JE_block ?_
                  -- stop: end
                  refine JE_next (fun st' R' a' W' => hK1 (true, upd f2 s (n + 1)) (hr2.turn V hrch hst hfx fun d' hd => by rw [hfs] at hd; cases hd; exact h4) st' R' a' W') ⟨_, ht_cons (ht_mp (by rw [upd_upd]) ht_nil)⟩
                · refine JC_skip ?_
                  refine JE_block ?_
                  -- stop: end
                  refine JE_next (fun st' R' a' W' => hK1 (c2, f2) (hr2.skip hs fun n' hn' => by rw [hfx] at hn'; cases hn'; exact ⟨d, hfs, by omega⟩) st' R' a' W') ⟨_, ht_cons (ht_cons ht_nil)⟩
          · rintro ⟨c2, f2⟩ hr2
            refine JE_block ?_
            refine JE_block ?_
            refine JE_seq ?_
            refine JC_region ?_
            refine JL_pd rfl (det_add rfl rfl ⟨by omega, by omega⟩) ?_
            refine JL_pd rfl (det_move rfl) ?_
            refine JL_nil ?_
            -- stop: end
            refine JE_roundF hK3 (g + 1, c2, f2) ⟨by simp only; omega, hr2.next hs⟩ (by simp only; omega) (stsub_consI rfl (by simp only; omega) stsub_nil) (ht_cons (ht_cons ht_nil))
          · rintro cd p w3 _ h
            exact h.elim
        · obtain rfl : g = 8 := by omega
          refine JC_exit ?_
          refine JE_seq_exit ?_
          refine JE_then_exit ?_
          refine JE_block_here ?_
          refine JE_block ?_
          refine JE_seq ?_
          refine JC_region ?_
          refine JL_pd rfl (det_add rfl rfl ⟨by omega, by omega⟩) ?_
          refine JL_pd rfl (det_move rfl) ?_
          refine JL_nil ?_
          -- stop: end
          refine JE_roundF hK2 (i + 1, c1, f1) ⟨by simp only; omega, hr1.after hs⟩ (by simp only; omega) (stsub_consI rfl (by simp only; omega) stsub_nil) (ht_cons (ht_cons ht_nil))
      · obtain rfl : i = L.length := by omega
        refine JC_exit ?_
        refine JE_seq_exit ?_
        refine JE_then_exit ?_
        refine JE_block_here ?_
        refine JE_block ?_
        refine JE_seq ?_
        refine JC_seq ?_
        refine JC_region ?_
        refine JL_dt rfl (det_loadK rfl Try.isAgg4 rfl) ?_
        refine JL_nil ?_
        refine JE_seq ?_
        refine JC_region ?_
        refine JL_step rfl rfl rfl (jo_alloc0 Try.zeroValue4 rfl) fun b9 => ?_
        refine JL_step0 rfl rfl (jo_store rfl rfl rfl (by first | (simp only [splice_norm]; done) | (simp only [splice_norm]; rfl) | rfl) Try.sizeOf4 rfl rfl) fun _ => ?_
        refine JL_nil ?_
        -- stop: end
        refine JE_roundF hK (b9, c, f) ⟨⟨_, _, _, _, _, hr⟩, fun hc => by simp only at hc; subst hc; exact hok _ _ _ _ hr⟩ (by show (if c = true then costF f + 1 else 0) < costF f0 + 1; cases c with | true => (have := hr.lt rfl; rw [if_pos rfl]; omega) | false => (rw [if_neg (by decide)]; omega)) (stsub_cons rfl stsub_nil) (ht_cons (ht_cons ht_nil))
    · subst hc
      refine JC_exit ?_
      refine JE_seq_exit ?_
      refine JE_then_exit ?_
      refine JE_block_here ?_
      refine JE_seq ?_
      refine JC_seq ?_
      refine JC_region ?_
      refine JL_dt rfl (det_loadK rfl Try.isAgg133 rfl) ?_
      refine JL_pd rfl (det_assign rfl) ?_
      refine JL_nil ?_
      refine JE_seq ?_
      refine JC_ret ?_
      -- stop: out
      refine JE_keepM (ek := ekSd) (ev := ekI) b18 noFp ?_
      refine JE_out (.inl rfl) (b18, ⟨f0, hdone rfl⟩) (results1 Try.results86 (res_tmp rfl)) rfl (List.Perm.refl _) (fun w h => h.1)
end Go.Proofs.Ytgbfjcgjcnndpaa

/- Walks of cycle: shortest ways. -/
namespace Go.Proofs.Ytgbfjcgjcnndpaa
open Go.RowKit Go.Shelf

set_option maxRecDepth 100000 in
theorem indexSd_j (s : Sd) (a : Option Addr) (cap : Nat) (xs : List Sd) (hl : xs.length ≤ 9223372036854775807) : Cv Try.prog 95 [.slice a xs.length cap, .agg #[I s.st, I s.sp]] (KSl a xs.length cap encSd xs) (I (idxOf (fun x => decide (s = x)) xs)) := by
  refine Cx_of Try.func95 rfl Try.ntmps95 rfl fun w0 M0 => ?_
  refine JC_seq ?_
  refine JC_region ?_
  refine JL_step rfl rfl rfl (jo_box rfl rfl) fun b3 => ?_
  refine JL_pd rfl (det_assign rfl) ?_
  refine JL_nil ?_
  refine JE_seq ?_
  refine JC_seq ?_
  refine JC_seq ?_
  refine JC_region ?_
  refine JL_pd rfl (det_move rfl) ?_
  refine JL_pd rfl (det_len rfl Try.runUnderlying36) ?_
  refine JL_pd rfl (det_move rfl) ?_
  refine JL_nil ?_
  refine JE_seq ?_
  refine JC_block ?_
  -- stop: loop
  refine JC_loopF (γ := Nat) (fun i => i ≤ xs.length ∧ (xs.take i).any (fun x => decide (s = x)) = false) (fun i => [(8, I i)]) (fun _ => []) (fun i => xs.length - i) 0 ⟨Nat.zero_le _, rfl⟩ (stsub_consI rfl rfl stsub_nil) ht_nil ?_
  rintro i ⟨hi, hno⟩ K hK
  dsimp only [List.cons_append, List.nil_append]
  refine JC_seq ?_
  refine JC_region ?_
  refine JL_pd rfl (det_lss rfl rfl) ?_
  refine JL_nil ?_
  refine JE_seq ?_
  refine JC_seq ?_
  -- stop: cond
  refine JC_if rfl (fun h1 => ?_) (fun h1 => ?_)
  · have hi2 : i < xs.length := by omega
    refine JC_skip ?_
    refine JE_seq ?_
    refine JC_seq ?_
    refine JC_block ?_
    refine JC_seq ?_
    refine JC_region ?_
    refine JL_pd rfl (det_move rfl) ?_
    refine JL_pd rfl (det_assign rfl) ?_
    refine JL_nil ?_
    refine JE_seq ?_
    refine JC_seq ?_
    refine JC_draw [] (by kernel_rfl) ?_
    refine JA_dt (i := 0) rfl (by kernel_rfl) (by kernel_rfl) rfl rfl (det_loadKA rfl Try.isAgg77 Try.sizeOf77 rfl rfl) ?_
    refine JA_pd (i := 1) rfl (by kernel_rfl) rfl rfl (det_move rfl) ?_
    refine JA_pd (i := 2) rfl (by kernel_rfl) rfl rfl (det_move rfl) ?_
    refine JA_dt (i := 3) rfl (by kernel_rfl) (by kernel_rfl) rfl rfl (det_indexAddr rfl rfl (by first | rfl | omega) (by first | assumption | omega | decide) Try.runUnderlying36 Try.sizeOf77) ?_
    refine JA_dt (i := 4) rfl (by kernel_rfl) (by kernel_rfl) rfl rfl (det_loadEA rfl (by first | assumption | omega | decide) Try.isAgg77 Try.sizeOf77 rfl rfl rfl) ?_
    refine JA_pd (i := 5) rfl (by kernel_rfl) rfl rfl (det_eqlA rfl rfl egt_77 (eqa_77 _ _ _ _)) ?_
    refine JA_done (by kernel_rfl) ?_
    refine JE_seq ?_
    -- stop: cond
    refine JC_cond rfl (fun h2 => ?_) (fun h2 => ?_)
    · refine JC_seq ?_
      refine JC_region ?_
      refine JL_pd rfl (det_move rfl) ?_
      refine JL_pd rfl (det_assign rfl) ?_
      refine JL_nil ?_
      refine JE_seq ?_
      refine JC_ret ?_
      refine JE_block_ret ?_
      refine JE_seq_ret ?_
      refine JE_then_ret ?_
      refine JE_block_ret ?_
      refine JE_seq_ret ?_
      -- stop: out
      refine JE_out (.inl rfl) () (results1 Try.results95 (res_tmp rfl)) (by rw [idxOf_hit hi2 hno (by simpa [Sd.ext'] using h2)]) (List.Perm.refl _) (fun _ _ => trivial)
    · refine JC_skip ?_
      refine JE_block ?_
      refine JE_seq ?_
      refine JC_region ?_
      refine JL_pd rfl (det_add rfl rfl ⟨by omega, by omega⟩) ?_
      refine JL_pd rfl (det_move rfl) ?_
      refine JL_nil ?_
      -- stop: end
      refine JE_roundF hK (i + 1) ⟨by omega, by rw [take_snoc hi2, List.any_append, hno]; simpa [Sd.ext'] using h2⟩ (by omega) (stsub_consI rfl (by omega) stsub_nil) ht_nil
  · refine JC_exit ?_
    refine JE_seq_exit ?_
    refine JE_then_exit ?_
    refine JE_block_here ?_
    refine JE_seq ?_
    refine JC_seq ?_
    refine JC_region ?_
    refine JL_pd rfl (det_assign rfl) ?_
    refine JL_nil ?_
    refine JE_seq ?_
    refine JC_ret ?_
    -- stop: out
    obtain rfl : i = xs.length := by omega
    rw [List.take_length] at hno
    refine JE_out (.inl rfl) () (results1 Try.results95 (res_tmp rfl)) (by rw [idxOf_none hno]) (List.Perm.refl _) (fun _ _ => trivial)
theorem containsSd_j (s : Sd) (a : Option Addr) (cap : Nat) (xs : List Sd) (hl : xs.length ≤ 9223372036854775807) : Cv Try.prog 77 [.slice a xs.length cap, .agg #[I s.st, I s.sp]] (KSl a xs.length cap encSd xs) (.bool (decide (s ∈ xs))) := by
  refine Cx_of Try.func77 rfl Try.ntmps77 rfl fun w0 M0 => ?_
  refine JC_seq ?_
  refine JC_region ?_
  refine JL_step rfl rfl rfl (jo_box rfl rfl) fun b3 => ?_
  refine JL_pd rfl (det_assign rfl) ?_
  refine JL_nil ?_
  refine JE_seq ?_
  refine JC_seq ?_
  refine JC_region ?_
  refine JL_pd rfl (det_move rfl) ?_
  refine JL_dt rfl (det_loadKA rfl Try.isAgg77 Try.sizeOf77 rfl rfl) ?_
  -- stop: op  2 t7 := (call (Call (value f95) (t5 t6) (36 77)))   <0 1>   118
  refine JL_step rfl rfl rfl (jo_callv rfl rfl Try.call95 rfl (indexSd_j s a cap xs hl)) fun _ => ?_
  refine JL_pd rfl (det_geq rfl rfl) ?_
  refine JL_pd rfl (det_assign rfl) ?_
  refine JL_nil ?_
  refine JE_seq ?_
  refine JC_ret ?_
  -- stop: out
  refine JE_out (.inl rfl) () (results1 Try.results77 (res_tmp rfl)) (by rw [show decide ((0 : Int) ≤ idxOf (fun x => decide (s = x)) xs) = xs.any (fun x => decide (s = x)) from idxOf_any]; congr 1; rw [Bool.eq_iff_iff]; simp) (List.Perm.refl _) (fun _ _ => trivial)
theorem containsSd_x (s : Sd) (u : Value) (xs : List Sd) (hl : xs.length ≤ 9223372036854775807) : Cx Try.prog 77 [u, .agg #[I s.st, I s.sp]] [ow u 77 2 xs.length (xs.flatMap encSd)] KTrue (fun _ : Unit => .bool (decide (s ∈ xs))) (fun _ => [ow u 77 2 xs.length (xs.flatMap encSd)]) (fun _ => KTrue) :=
  Cx.lendOw (args := fun u => [u, .agg #[I s.st, I s.sp]]) u xs fun a cap => (containsSd_j s a cap xs hl).mono (fun _ h => h.1) fun _ _ h => h
/-- What comes next from some stands, as it is gathered. -/
structure NxI (m : Mc) (g : Int) (q : Sd → Prop) (ns : List Sd) (i : Nat) (p : List Sd) (xs : List Sd) : Prop where
  nd : xs.Nodup
  ins : ∀ t ∈ xs, InM m t
  mem : ∀ t, t ∈ xs ↔ (∃ s ∈ ns.take i, t ∈ nextL m m.locks s g ∧ q t) ∨ (t ∈ p ∧ q t)
theorem NxI.len {m : Mc} (V : Valid m) {g : Int} {q : Sd → Prop} {ns p xs : List Sd} {i : Nat} (h : NxI m g q ns i p xs) : xs.length ≤ 24 := by
  rw [← len_all]
  exact nodup_len h.nd fun t ht => (h.ins t ht).all V
theorem NxI.zero (m : Mc) (g : Int) (q : Sd → Prop) (ns : List Sd) : NxI m g q ns 0 [] [] := ⟨List.nodup_nil, (fun _ h => by cases h), fun t => by simp⟩
theorem NxI.skip {m : Mc} {g : Int} {q : Sd → Prop} {ns p xs : List Sd} {i : Nat} (h : NxI m g q ns i p xs) {t : Sd} (ht : ¬ q t ∨ t ∈ xs) : NxI m g q ns i (p ++ [t]) xs := by
  refine ⟨h.nd, h.ins, fun u => ?_⟩
  rw [h.mem u]
  constructor
  · rintro (h1 | ⟨h1, h2⟩)
    · exact .inl h1
    · exact .inr ⟨List.mem_append.2 (.inl h1), h2⟩
  · rintro (h1 | ⟨h1, h2⟩)
    · exact .inl h1
    · rcases List.mem_append.1 h1 with h1 | h1
      · exact .inr ⟨h1, h2⟩
      · obtain rfl := List.mem_singleton.1 h1
        rcases ht with ht | ht
        · exact absurd h2 ht
        · exact (h.mem u).1 ht
theorem NxI.add {m : Mc} {g : Int} {q : Sd → Prop} {ns p xs : List Sd} {i : Nat} (h : NxI m g q ns i p xs) {t : Sd} (hi : InM m t) (hq : q t) (hn : t ∉ xs) : NxI m g q ns i (p ++ [t]) (xs ++ [t]) := by
  refine ⟨List.nodup_append.2 ⟨h.nd, by simp, fun a ha b hb => by rw [List.mem_singleton.1 hb]; exact fun e => hn (e ▸ ha)⟩, fun u hu => ?_, fun u => ?_⟩
  · rcases List.mem_append.1 hu with hu | hu
    · exact h.ins u hu
    · rw [List.mem_singleton.1 hu]; exact hi
  · rw [List.mem_append, List.mem_append, List.mem_singleton, h.mem u]
    constructor
    · rintro ((h1 | ⟨h1, h2⟩) | rfl)
      · exact .inl h1
      · exact .inr ⟨.inl h1, h2⟩
      · exact .inr ⟨.inr rfl, hq⟩
    · rintro (h1 | ⟨h1 | h1, h2⟩)
      · exact .inl (.inl h1)
      · exact .inl (.inr ⟨h1, h2⟩)
      · exact .inr h1
theorem NxI.next {m : Mc} {g : Int} {q : Sd → Prop} {ns xs : List Sd} {i : Nat} (hi : i < ns.length) (h : NxI m g q ns i (nextL m m.locks ns[i] g) xs) : NxI m g q ns (i + 1) [] xs := by
  refine ⟨h.nd, h.ins, fun t => ?_⟩
  rw [h.mem t, take_snoc hi]
  constructor
  · rintro (⟨s, hs, h1⟩ | ⟨h1, h2⟩)
    · exact .inl ⟨s, List.mem_append.2 (.inl hs), h1⟩
    · exact .inl ⟨ns[i], List.mem_append.2 (.inr (by simp)), h1, h2⟩
  · rintro (⟨s, hs, h1⟩ | ⟨h1, _⟩)
    · rcases List.mem_append.1 hs with hs | hs
      · exact .inl ⟨s, hs, h1⟩
      · obtain rfl := List.mem_singleton.1 hs
        exact .inr h1
    · cases h1
theorem NxI.done {m : Mc} {g : Int} {q : Sd → Prop} {ns xs : List Sd} (h : NxI m g q ns ns.length [] xs) (t : Sd) : t ∈ xs ↔ ∃ s ∈ ns, t ∈ nextL m m.locks s g ∧ q t := by
  rw [h.mem t, List.take_length]
  simp
end Go.Proofs.Ytgbfjcgjcnndpaa

/- Walks of cycle: a shortest way. -/
namespace Go.Proofs.Ytgbfjcgjcnndpaa
open Go.RowKit Go.Shelf

theorem way_jn (m : Mc) (a : MA) (b mb : Nat) (V : Valid m) (goal : Sd → Bool) (F : Nat) (fs cs : List Value) (Kf : World → Prop) (eF : ∀ args w, (callFunc F args).run Try.prog w = .ok (.enter F args) w) (hF : ∀ x : Sd, Cv Try.prog F (fs ++ [.agg #[I x.st, I x.sp]] ++ cs) Kf (.bool (goal x)))
    (hw : wayO m m.locks goal = none) : Cv Try.prog 64 [pt b, .func (.func F) fs.toArray cs.toArray] (KAnd (KHall m a b mb) Kf) (.tuple #[.slice none 0 0, .bool false]) := by
  refine Cx_of Try.func64 rfl Try.ntmps64 rfl fun w0 M0 => ?_
  refine JC_seq ?_
  refine JC_region ?_
  refine JL_pd rfl (det_assign rfl) ?_
  refine JL_pd rfl (det_assign rfl) ?_
  refine JL_nil ?_
  refine JE_seq ?_
  refine JC_scope rfl ?_
  refine JC_seq ?_
  refine JC_region ?_
  refine JL_pd rfl (det_move rfl) ?_
  refine JL_pd rfl (det_move rfl) ?_
  -- stop: op  2 t20 := (call (Call (value f86) (t18 t19) (104 109)))   <0 1>   224
  refine JL_step rfl rfl rfl (jo_call rfl rfl Try.call86 rfl (far_j m a b mb V goal F fs cs Kf eF hF)) fun ⟨fb, f, hf⟩ => ?_
  refine JL_step rfl rfl rfl (jo_alloc0 Try.zeroValue133 rfl) fun b6 => ?_
  refine JL_step0 rfl rfl (jo_store rfl rfl rfl (by first | (simp only [splice_norm]; done) | (simp only [splice_norm]; rfl) | rfl) Try.sizeOf133 rfl rfl) fun _ => ?_
  refine JL_nil ?_
  refine JE_seq ?_
  refine JC_seq ?_
  refine JC_region ?_
  refine JL_dt rfl (det_loadK rfl Try.isAgg133 rfl) ?_
  refine JL_pd rfl (det_build rfl (bld_77)) ?_
  -- stop: op  2 t24 := (lookup 133 t22 t23 true)   <0 1>   225
  have h0 : f ⟨0, 0⟩ = none := by
    have := hf.long V
    cases h : f ⟨0, 0⟩ with
    | none => rfl
    | some d => rw [h] at this; unfold wayO at hw; rw [this] at hw; cases hw
  refine JL_dt rfl (det_lookup2KN (ek := ekSd) (ev := ekI) h0 rfl rfl goodSd Try.underlying133 Try.zeroValue3) ?_
  refine JL_pd rfl (det_move rfl) ?_
  refine JL_pd rfl (det_extract rfl rfl) ?_
  refine JL_pd rfl (det_extract rfl rfl) ?_
  refine JL_step rfl rfl rfl (jo_alloc0 Try.zeroValue3 rfl) fun b7 => ?_
  refine JL_step0 rfl rfl (jo_store rfl rfl rfl (by first | (simp only [splice_norm]; done) | (simp only [splice_norm]; rfl) | rfl) Try.sizeOf3 rfl rfl) fun _ => ?_
  refine JL_pd rfl (det_assign rfl) ?_
  refine JL_nil ?_
  refine JE_seq ?_
  refine JC_seq ?_
  refine JC_seq ?_
  refine JC_region ?_
  refine JL_pd rfl (det_move rfl) ?_
  refine JL_pd rfl (det_not rfl) ?_
  refine JL_nil ?_
  refine JE_seq ?_
  -- stop: cond
  refine JC_cond rfl (fun h1 => ?_) (fun h1 => ?_)
  · refine JC_seq ?_
    refine JC_region ?_
    refine JL_pd rfl (det_assign rfl) ?_
    refine JL_pd rfl (det_assign rfl) ?_
    refine JL_nil ?_
    refine JE_seq ?_
    refine JC_ret ?_
    refine JE_seq_ret ?_
    refine JE_scope_ret ?_
    -- stop: out
    refine JE_out (.inl rfl) () (results2 Try.results64 (res_tmp rfl) (res_tmp rfl)) rfl (List.Perm.refl _) (fun _ _ => trivial)
  · cases h1
/-- Between the signals of a way. -/
structure WaySt where
  k : Nat
  w : Nat → Bool
  u : Value
  os : List Int
  na : Option Addr
  nc : Nat
  ns : List Sd
structure WayI (m : Mc) (goal : Sd → Bool) (f : Sd → Option Int) (full : List Int) (q : WaySt) : Prop where
  pre : Pre m goal q.k q.w
  wit : witW m m.locks goal q.k q.w = true
  mem : ∀ s, s ∈ q.ns ↔ Now f q.k q.w s
  all : q.os ++ wayL m m.locks goal q.k q.w = full
  len : q.os.length + q.k ≤ 24
set_option maxRecDepth 100000 in
set_option maxHeartbeats 1000000 in
theorem way_js (m : Mc) (a : MA) (b mb : Nat) (V : Valid m) (goal : Sd → Bool) (F : Nat) (fs cs : List Value) (Kf : World → Prop) (eF : ∀ args w, (callFunc F args).run Try.prog w = .ok (.enter F args) w) (hF : ∀ x : Sd, Cv Try.prog F (fs ++ [.agg #[I x.st, I x.sp]] ++ cs) Kf (.bool (goal x)))
    (full : List Int) (hw : wayO m m.locks goal = some full) : Cr Try.prog 64 [pt b, .func (.func F) fs.toArray cs.toArray] (KAnd (KHall m a b mb) Kf) (fun q : Option Addr × Nat => .tuple #[.slice q.1 full.length q.2, .bool true]) (fun q => KSl q.1 full.length q.2 encI full) := by
  have hl := V.ns
  refine Cx_of Try.func64 rfl Try.ntmps64 rfl fun w0 M0 => ?_
  refine JC_seq ?_
  refine JC_region ?_
  refine JL_pd rfl (det_assign rfl) ?_
  refine JL_pd rfl (det_assign rfl) ?_
  refine JL_nil ?_
  refine JE_seq ?_
  refine JC_scope rfl ?_
  refine JC_seq ?_
  refine JC_region ?_
  refine JL_pd rfl (det_move rfl) ?_
  refine JL_pd rfl (det_move rfl) ?_
  -- stop: op  2 t20 := (call (Call (value f86) (t18 t19) (104 109)))   <0 1>   224
  refine JL_step rfl rfl rfl (jo_call rfl rfl Try.call86 rfl (far_j m a b mb V goal F fs cs Kf eF hF)) fun ⟨fb, f, hf⟩ => ?_
  refine JL_step rfl rfl rfl (jo_alloc0 Try.zeroValue133 rfl) fun b6 => ?_
  refine JL_step0 rfl rfl (jo_store rfl rfl rfl (by first | (simp only [splice_norm]; done) | (simp only [splice_norm]; rfl) | rfl) Try.sizeOf133 rfl rfl) fun _ => ?_
  refine JL_nil ?_
  refine JE_seq ?_
  refine JC_seq ?_
  refine JC_region ?_
  refine JL_dt rfl (det_loadK rfl Try.isAgg133 rfl) ?_
  refine JL_pd rfl (det_build rfl (bld_77)) ?_
  -- stop: op  2 t24 := (lookup 133 t22 t23 true)   <0 1>   225
  obtain ⟨n0, h0, hn0, hfull⟩ : ∃ n : Nat, f ⟨0, 0⟩ = some (n : Int) ∧ n < 24 ∧ wayL m m.locks goal n begW = full := by
    have := hf.long V
    unfold wayO at hw
    cases h : f ⟨0, 0⟩ with
    | none => rw [this, h] at hw; cases hw
    | some d =>
      obtain ⟨n, rfl, hn, _⟩ := hf.path _ _ h
      rw [this, h] at hw
      exact ⟨n, rfl, hn, by simpa using hw⟩
  have hpre := hf.pre h0
  have hnow : Now f n0 begW ⟨0, 0⟩ := ⟨0, by omega, rfl, rfl, h0⟩
  have hwit := (hpre.now V hf).1 ⟨_, hnow⟩
  refine JL_dt rfl (det_lookup2KS (ek := ekSd) (ev := ekI) h0 rfl rfl goodSd Try.underlying133 Try.zeroValue3) ?_
  refine JL_pd rfl (det_move rfl) ?_
  refine JL_pd rfl (det_extract rfl rfl) ?_
  refine JL_pd rfl (det_extract rfl rfl) ?_
  refine JL_step rfl rfl rfl (jo_alloc0 Try.zeroValue3 rfl) fun b7 => ?_
  refine JL_step0 rfl rfl (jo_store rfl rfl rfl (by first | (simp only [splice_norm]; done) | (simp only [splice_norm]; rfl) | rfl) Try.sizeOf3 rfl rfl) fun _ => ?_
  refine JL_pd rfl (det_assign rfl) ?_
  refine JL_nil ?_
  refine JE_seq ?_
  refine JC_seq ?_
  refine JC_seq ?_
  refine JC_region ?_
  refine JL_pd rfl (det_move rfl) ?_
  refine JL_pd rfl (det_not rfl) ?_
  refine JL_nil ?_
  refine JE_seq ?_
  -- stop: cond
  refine JC_cond rfl (fun h1 => ?_) (fun h1 => ?_)
  · cases h1
  · refine JC_skip ?_
    refine JE_seq ?_
    refine JC_seq ?_
    refine JC_region ?_
    refine JL_pd rfl (det_assign rfl) ?_
    refine JL_nil ?_
    refine JE_seq ?_
    refine JC_seq ?_
    refine JC_region ?_
    refine JL_pd rfl (det_build rfl (bld_77)) ?_
    refine JL_step rfl rfl rfl (jo_buildSlice rfl (bsl_36_1_0 _ _)) fun b30 => ?_
    refine JL_pd rfl (det_assign rfl) ?_
    refine JL_nil ?_
    refine JE_seq ?_
    refine JC_seq ?_
    refine JC_label ?_
    refine JE_seq ?_
    refine JC_seq ?_
    refine JC_block ?_
    -- stop: loop
    refine JC_lit (enc := encSd) b30 1 [⟨0, 0⟩] noFp rfl rfl (by decide) ?_
    refine JC_keep b6 noFp ?_
    refine JC_nil 3 1 ?_
    refine JC_loopK (γ := WaySt) (fun q => WayI m goal f full q) (fun q => [(9, q.u), (10, .slice q.na q.ns.length q.nc)]) (fun q => [bx b7 [I q.k], ow q.u 3 1 q.os.length (q.os.flatMap encI)]) (fun q => KSl q.na q.ns.length q.nc encSd q.ns) (fun q => q.k) ⟨n0, begW, .slice none 0 0, [], some ⟨b30, 0, none⟩, 1, [⟨0, 0⟩]⟩
      ⟨hpre, hwit, fun s => ?_, hfull, by simp; omega⟩ (stsub_cons rfl (stsub_cons rfl stsub_nil)) (ht_bx rfl (ht_ow rfl rfl ht_nil)) (fun w h => Knows.know w h) ?_
    · rw [List.mem_singleton]
      refine ⟨fun e => e ▸ hnow, fun ⟨j, _, h2, h3, _⟩ => ?_⟩
      have : j = 0 := of_decide_eq_true h2
      subst this
      exact h3
    rintro ⟨k, w, u, os, na, nc, ns⟩ hI K hK
    dsimp only [List.cons_append, List.nil_append] at hI ⊢
    obtain ⟨hpre, hwit, hmem, hall, hlen⟩ := hI
    dsimp only at hpre hwit hmem hall hlen
    refine JC_pure (p := ns.length ≤ 9223372036854775807) (by intro w h; exact h.1.1.bd) fun hns => ?_
    refine JC_seq ?_
    refine JC_seq ?_
    refine JC_region ?_
    refine JL_dt rfl (det_loadK rfl Try.isAgg3 rfl) ?_
    refine JL_pd rfl (det_gtr rfl rfl) ?_
    refine JL_nil ?_
    refine JE_seq ?_
    -- stop: cond
    refine JC_if rfl (fun h2 => ?_) (fun h2 => ?_)
    · obtain ⟨k', rfl⟩ : ∃ k', k = k' + 1 := ⟨k - 1, by omega⟩
      refine JC_skip ?_
      refine JE_seq ?_
      refine JC_seq ?_
      refine JC_block ?_
      refine JC_seq ?_
      refine JC_region ?_
      refine JL_pd rfl (det_move rfl) ?_
      refine JL_nil ?_
      refine JE_seq ?_
      refine JC_block ?_
      -- stop: loop
      refine JC_loopF (γ := Nat) (fun g => g ≤ 8 ∧ ∀ j : Nat, j < g → witW m m.locks goal k' (behW m m.locks w (j : Int)) = false) (fun g => [(35, I g)]) (fun _ => []) (fun g => 8 - g) 0 ⟨Nat.zero_le _, fun _ h => by omega⟩ (stsub_consI rfl rfl stsub_nil) ht_nil ?_
      rintro g ⟨hg, hno⟩ K2 hK2
      dsimp only [List.cons_append, List.nil_append]
      refine JC_seq ?_
      refine JC_region ?_
      refine JL_pd rfl (det_lss rfl rfl) ?_
      refine JL_nil ?_
      refine JE_seq ?_
      refine JC_seq ?_
      -- stop: cond
      refine JC_if rfl (fun h3 => ?_) (fun h3 => ?_)
      · have hg2 : g < 8 := by omega
        refine JC_skip ?_
        refine JE_seq ?_
        refine JC_seq ?_
        refine JC_block ?_
        refine JC_seq ?_
        refine JC_region ?_
        refine JL_pd rfl (det_move rfl) ?_
        refine JL_pd rfl (det_assign rfl) ?_
        refine JL_nil ?_
        refine JE_seq ?_
        refine JC_seq ?_
        refine JC_region ?_
        refine JL_step rfl rfl rfl (jo_alloc0 Try.zeroValue36 rfl) fun b12 => ?_
        refine JL_nil ?_
        refine JE_seq ?_
        refine JC_seq ?_
        refine JC_seq ?_
        refine JC_region ?_
        refine JL_pd rfl (det_move rfl) ?_
        refine JL_pd rfl (det_len rfl Try.runUnderlying36) ?_
        refine JL_pd rfl (det_move rfl) ?_
        refine JL_nil ?_
        refine JE_seq ?_
        refine JC_block ?_
        -- stop: loop
        refine JC_nil 77 2 ?_
        refine JC_loopF (γ := Nat × Value × List Sd) (fun q => q.1 ≤ ns.length ∧ NxI m (g : Int) (fun t => f t = some (k' : Int)) ns q.1 [] q.2.2) (fun q => [(40, I q.1)]) (fun q => [bx b7 [I ((k' + 1 : Nat) : Int)], bx b12 [q.2.1], ow q.2.1 77 2 q.2.2.length (q.2.2.flatMap encSd)]) (fun q => ns.length - q.1) (0, .slice none 0 0, []) ⟨Nat.zero_le _, NxI.zero m _ _ ns⟩ (stsub_consI rfl rfl stsub_nil) (show HTake _ [bx b7 [I ((k' + 1 : Nat) : Int)], bx b12 [.slice none 0 0], ow (.slice none 0 0) 77 2 0 []] _ from ht_cons (ht_cons (ht_cons ht_nil))) ?_
        rintro ⟨i, v, xs⟩ ⟨hi, hx⟩ K3 hK3
        dsimp only [List.cons_append, List.nil_append] at hi hx ⊢
        refine JC_seq ?_
        refine JC_region ?_
        refine JL_pd rfl (det_lss rfl rfl) ?_
        refine JL_nil ?_
        refine JE_seq ?_
        refine JC_seq ?_
        -- stop: cond
        refine JC_if rfl (fun h4 => ?_) (fun h4 => ?_)
        · have hi2 : i < ns.length := by omega
          obtain ⟨j0, hj0, hj1, hj2, _⟩ := (hmem ns[i]).1 (List.getElem_mem hi2)
          have hin : InM m ns[i] := by rw [hj2]; exact (hpre.rch j0 hj0 hj1).inM V
          have hnext := fun xs => NxI.next (m := m) (g := (g : Int)) (q := fun t => f t = some (k' : Int)) (xs := xs) hi2
          have hsame : ns[i] = ns[i] := rfl
          generalize hse : ns[i] = s at hin hnext
          refine JC_skip ?_
          refine JE_seq ?_
          refine JC_seq ?_
          refine JC_block ?_
          refine JC_seq ?_
          refine JC_region ?_
          refine JL_dt rfl (det_indexAddr rfl rfl (by first | rfl | omega) (by first | assumption | omega | decide) Try.runUnderlying36 Try.sizeOf77) ?_
          refine JL_dt rfl (det_loadEA (vs := [I s.st, I s.sp]) rfl (by first | assumption | omega | decide) Try.isAgg77 Try.sizeOf77 rfl (by rw [← hse]; rfl) rfl) ?_
          refine JL_step rfl rfl rfl (jo_alloc0 Try.zeroValue77 rfl) fun b14 => ?_
          refine JL_step0 rfl rfl (jo_store rfl rfl rfl (by first | (simp only [splice_norm]; done) | (simp only [splice_norm]; rfl) | rfl) Try.sizeOf77 rfl rfl) fun _ => ?_
          refine JL_nil ?_
          refine JE_seq ?_
          refine JC_seq ?_
          refine JC_region ?_
          refine JL_pd rfl (det_move rfl) ?_
          refine JL_dt rfl (det_loadKA rfl Try.isAgg77 Try.sizeOf77 rfl rfl) ?_
          refine JL_pd rfl (det_move rfl) ?_
          refine JL_step rfl rfl rfl (jo_call rfl rfl Try.call74 rfl (next_j b s _)) fun x47 => ?_
          refine JL_nil ?_
          refine JE_seq ?_
          refine JC_block ?_
          -- stop: rangeFunc
          have hit := next_it m a s (g : Int) b mb x47.1 x47.2.1 x47.2.2 (by omega) (by obtain ⟨_, _, q1, q2⟩ := hin; omega)
          refine JC_rangeI (γ := Value × List Sd) (β := Nat) rfl rfl rfl rfl Try.call93 hit (perm3 (bx b7 [I ((k' + 1 : Nat) : Int)]) (bx b12 [v]) (ow v 77 2 xs.length (xs.flatMap encSd))) (fun w _ h => Knows.know w h) (fun _ => rfl) ?_
            (fun p q => NxI m (g : Int) (fun t => f t = some (k' : Int)) ns i p q.2) (fun _ _ _ => False) (fun q => [bx b7 [I ((k' + 1 : Nat) : Int)], bx b12 [q.1], ow q.1 77 2 q.2.length (q.2.flatMap encSd)]) (v, xs) hx rfl
            (fun x t => [(15, pt t), (6, pt b6), (7, pt b7), (12, pt b12)]) (fun x t => [bx t [I x.st, I x.sp]]) ?_ ?_ ?_ ?_
          · show ∀ p ∈ [48], p < 83
            decide
          · intro l' x W K0 hK0
            refine JC_region ?_
            refine JL_step rfl rfl rfl (jo_alloc0 Try.zeroValue77 rfl) fun b15 => ?_
            refine JL_step0 rfl rfl (jo_store rfl rfl rfl (by first | (simp only [splice_norm]; done) | (simp only [splice_norm]; rfl) | rfl) Try.sizeOf77 rfl rfl) fun _ => ?_
            refine JL_nil ?_
            -- stop: end
            exact JE_asg (hK0 b15) (stsub_cons rfl (stsub_cons rfl (stsub_cons rfl (stsub_cons rfl stsub_nil)))) (hsub_cons hsub_nil) (fun _ h => trivial)
          · rintro l' p x ⟨v2, xs2⟩ t W K1 QX hx2 hpx hK1 _
            dsimp only at hx2
            dsimp only [List.cons_append, List.nil_append]
            have hxm : x ∈ nextL m m.locks s (g : Int) := hpx.subset (by simp)
            have hxin := next_in V hin hxm
            have hlx := hx2.len V
            cases hfx : f x with
            | none =>
              refine JC_block ?_
              refine JC_seq ?_
              refine JC_region ?_
              refine JL_dt rfl (det_loadK rfl Try.isAgg133 rfl) ?_
              refine JL_dt rfl (det_loadKA rfl Try.isAgg77 Try.sizeOf77 rfl rfl) ?_
              refine JL_dt rfl (det_lookup2KN (ek := ekSd) (ev := ekI) hfx rfl rfl goodSd Try.underlying133 Try.zeroValue3) ?_
              refine JL_pd rfl (det_move rfl) ?_
              refine JL_pd rfl (det_extract rfl rfl) ?_
              refine JL_pd rfl (det_extract rfl rfl) ?_
              refine JL_pd rfl (det_assign rfl) ?_
              refine JL_pd rfl (det_assign rfl) ?_
              refine JL_nil ?_
              refine JE_seq ?_
              refine JC_seq ?_
              refine JC_region ?_
              refine JL_pd rfl (det_move rfl) ?_
              refine JL_pd rfl (det_move rfl) ?_
              -- stop: guard 1
              refine JL_is (d0 := 56) false rfl (by rfl) (fun g1 => ?_)
              refine JL_skip rfl rfl g1 rfl ?_
              refine JL_skip rfl rfl g1 rfl ?_
              refine JL_skip rfl rfl g1 rfl ?_
              refine JL_skip rfl rfl g1 rfl ?_
              refine JL_pd rfl (det_pick_f rfl g1 rfl) ?_
              refine JL_pd rfl (det_move rfl) ?_
              refine JL_skip rfl rfl rfl rfl ?_
              refine JL_skip rfl rfl rfl rfl ?_
              refine JL_skip rfl rfl rfl rfl ?_
              refine JL_skip rfl rfl rfl rfl ?_
              refine JL_pd rfl (det_pick_f rfl rfl rfl) ?_
              refine JL_nil ?_
              refine JE_seq ?_
              refine JC_condF rfl rfl ?_
              refine JC_skip ?_
              refine JE_block ?_
              -- stop: end
              refine JE_next (fun st' R' a' W' => hK1 (v2, xs2) (hx2.skip (.inl fun h => by rw [hfx] at h; cases h)) st' R' a' W') ⟨_, ht_cons (ht_cons (ht_cons ht_nil))⟩
            | some n =>
              obtain ⟨n', hn1, hn2, _⟩ := hf.path x n hfx
              by_cases hn : n = (k' : Int)
              · refine JC_block ?_
                refine JC_seq ?_
                refine JC_region ?_
                refine JL_dt rfl (det_loadK rfl Try.isAgg133 rfl) ?_
                refine JL_dt rfl (det_loadKA rfl Try.isAgg77 Try.sizeOf77 rfl rfl) ?_
                refine JL_dt rfl (det_lookup2KS (ek := ekSd) (ev := ekI) hfx rfl rfl goodSd Try.underlying133 Try.zeroValue3) ?_
                refine JL_pd rfl (det_move rfl) ?_
                refine JL_pd rfl (det_extract rfl rfl) ?_
                refine JL_pd rfl (det_extract rfl rfl) ?_
                refine JL_pd rfl (det_assign rfl) ?_
                refine JL_pd rfl (det_assign rfl) ?_
                refine JL_nil ?_
                refine JE_seq ?_
                refine JC_seq ?_
                refine JC_region ?_
                refine JL_pd rfl (det_move rfl) ?_
                refine JL_pd rfl (det_move rfl) ?_
                -- stop: guard 1
                refine JL_is (d0 := 56) true rfl (by rfl) (fun g1 => ?_)
                refine JL_guard rfl rfl g1 ?_
                refine JL_pd rfl (det_move rfl) ?_
                refine JL_guard rfl rfl g1 ?_
                refine JL_dt rfl (det_loadK rfl Try.isAgg3 rfl) ?_
                refine JL_guard rfl rfl g1 ?_
                refine JL_pd rfl (det_sub rfl rfl ⟨by omega, by omega⟩) ?_
                refine JL_guard rfl rfl g1 ?_
                refine JL_pd rfl (det_eql rfl rfl) ?_
                refine JL_pd rfl (det_pick_t rfl g1 rfl) ?_
                refine JL_pd rfl (det_move rfl) ?_
                -- stop: guard 7
                refine JL_is (d0 := 62) true rfl (by exact decide_eq_true (by omega)) (fun g2 => ?_)
                refine JL_guard rfl rfl g2 ?_
                refine JL_dt rfl (det_loadK rfl Try.isAgg36 rfl) ?_
                refine JL_guard rfl rfl g2 ?_
                refine JL_dt rfl (det_loadKA rfl Try.isAgg77 Try.sizeOf77 rfl rfl) ?_
                refine JL_guard rfl rfl g2 ?_
                refine JL_step rfl rfl rfl (jo_callx rfl rfl Try.call77 rfl (containsSd_x x v2 xs2 (by omega)) (pick_perm)) fun x65 => ?_
                refine JL_guard rfl rfl g2 ?_
                refine JL_pd rfl (det_not rfl) ?_
                refine JL_pd rfl (det_pick_t rfl g2 rfl) ?_
                refine JL_nil ?_
                refine JE_seq ?_
                -- stop: cond
                refine JC_cond rfl (fun h6 => ?_) (fun h6 => ?_)
                · have h6' : x ∉ xs2 := by simpa using h6
                  have hx3 := hx2.add hxin (by rw [hfx, hn]) h6'
                  refine JC_region ?_
                  refine JL_dt rfl (det_loadK rfl Try.isAgg36 rfl) ?_
                  refine JL_dt rfl (det_loadKA rfl Try.isAgg77 Try.sizeOf77 rfl rfl) ?_
                  refine JL_step rfl rfl rfl (jo_buildSlice rfl (bsl_36_1_0 _ _)) fun b70 => ?_
                  refine JL_step rfl rfl rfl (jo_append el_36 rfl rfl rfl rfl (by omega)) fun b71 => ?_
                  refine JL_step0 rfl rfl (jo_store rfl rfl rfl (by first | (simp only [splice_norm]; done) | (simp only [splice_norm]; rfl) | rfl) Try.sizeOf36 rfl rfl) fun _ => ?_
                  refine JL_nil ?_
                  refine JE_block ?_
                  -- stop: end
                  refine JE_next (fun st' R' a' W' => hK1 (.slice (some ⟨b71.1, 0, none⟩) (xs2.length + 1) b71.2, xs2 ++ [x]) hx3 st' R' a' W') ⟨_, ht_cons (ht_cons (ht_ow (by simp) (by simp [encSd]) ht_nil))⟩
                · have h6' : x ∈ xs2 := by simpa using h6
                  refine JC_skip ?_
                  refine JE_block ?_
                  -- stop: end
                  refine JE_next (fun st' R' a' W' => hK1 (v2, xs2) (hx2.skip (.inr h6')) st' R' a' W') ⟨_, ht_cons (ht_cons (ht_cons ht_nil))⟩
              · refine JC_block ?_
                refine JC_seq ?_
                refine JC_region ?_
                refine JL_dt rfl (det_loadK rfl Try.isAgg133 rfl) ?_
                refine JL_dt rfl (det_loadKA rfl Try.isAgg77 Try.sizeOf77 rfl rfl) ?_
                refine JL_dt rfl (det_lookup2KS (ek := ekSd) (ev := ekI) hfx rfl rfl goodSd Try.underlying133 Try.zeroValue3) ?_
                refine JL_pd rfl (det_move rfl) ?_
                refine JL_pd rfl (det_extract rfl rfl) ?_
                refine JL_pd rfl (det_extract rfl rfl) ?_
                refine JL_pd rfl (det_assign rfl) ?_
                refine JL_pd rfl (det_assign rfl) ?_
                refine JL_nil ?_
                refine JE_seq ?_
                refine JC_seq ?_
                refine JC_region ?_
                refine JL_pd rfl (det_move rfl) ?_
                refine JL_pd rfl (det_move rfl) ?_
                -- stop: guard 1
                refine JL_is (d0 := 56) true rfl (by rfl) (fun g1 => ?_)
                refine JL_guard rfl rfl g1 ?_
                refine JL_pd rfl (det_move rfl) ?_
                refine JL_guard rfl rfl g1 ?_
                refine JL_dt rfl (det_loadK rfl Try.isAgg3 rfl) ?_
                refine JL_guard rfl rfl g1 ?_
                refine JL_pd rfl (det_sub rfl rfl ⟨by omega, by omega⟩) ?_
                refine JL_guard rfl rfl g1 ?_
                refine JL_pd rfl (det_eql rfl rfl) ?_
                refine JL_pd rfl (det_pick_t rfl g1 rfl) ?_
                refine JL_pd rfl (det_move rfl) ?_
                -- stop: guard 7
                refine JL_is (d0 := 62) false rfl (by exact decide_eq_false (by omega)) (fun g2 => ?_)
                refine JL_skip rfl rfl g2 rfl ?_
                refine JL_skip rfl rfl g2 rfl ?_
                refine JL_skip rfl rfl g2 rfl ?_
                refine JL_skip rfl rfl g2 rfl ?_
                refine JL_pd rfl (det_pick_f rfl g2 rfl) ?_
                refine JL_nil ?_
                refine JE_seq ?_
                refine JC_condF rfl rfl ?_
                refine JC_skip ?_
                refine JE_block ?_
                -- stop: end
                refine JE_next (fun st' R' a' W' => hK1 (v2, xs2) (hx2.skip (.inl fun h => by rw [hfx] at h; cases h; exact hn rfl)) st' R' a' W') ⟨_, ht_cons (ht_cons (ht_cons ht_nil))⟩
          · rintro ⟨v2, xs2⟩ hx2
            refine JE_block ?_
            refine JE_block ?_
            refine JE_seq ?_
            refine JC_region ?_
            refine JL_pd rfl (det_add rfl rfl ⟨by omega, by omega⟩) ?_
            refine JL_pd rfl (det_move rfl) ?_
            refine JL_nil ?_
            -- stop: end
            refine JE_roundF hK3 (i + 1, v2, xs2) ⟨by simp only; omega, hnext _ hx2⟩ (by simp only; omega) (stsub_consI rfl (by simp only; omega) stsub_nil) (ht_cons (ht_cons (ht_cons ht_nil)))
          · rintro cd p w3 _ h
            exact h.elim
        · obtain rfl : i = ns.length := by omega
          have hd := hx.done
          have hlx := hx.len V
          have hstep := fun t => hpre.next V hf hg2 t
          refine JC_slice (enc := encSd) (v := v) xs noFp rfl rfl ?_
          rintro av cv rfl
          refine JC_exit ?_
          refine JE_seq_exit ?_
          refine JE_then_exit ?_
          refine JE_block_here ?_
          refine JE_seq ?_
          refine JC_seq ?_
          refine JC_region ?_
          refine JL_dt rfl (det_loadK rfl Try.isAgg36 rfl) ?_
          refine JL_pd rfl (det_len rfl Try.runUnderlying36) ?_
          refine JL_pd rfl (det_gtr rfl rfl) ?_
          refine JL_nil ?_
          refine JE_seq ?_
          -- stop: cond
          refine JC_if rfl (fun h5 => ?_) (fun h5 => ?_)
          · have hxne : xs ≠ [] := by rintro rfl; simp at h5
            obtain ⟨t0, ht0⟩ := List.exists_mem_of_ne_nil xs hxne
            have hw2 := ((hpre.step hg2).now V hf).1 ⟨t0, (hstep t0).2 (by obtain ⟨s, q1, q2, q3⟩ := (hd t0).1 ht0; exact ⟨s, (hmem s).1 q1, q2, q3⟩)⟩
            have hwl := wayL_hit (ls := m.locks) (goal := goal) (w := w) hg2 hw2 hno
            rw [hwl] at hall
            refine JC_keep b12 noFp ?_
            refine JC_seq ?_
            -- stop: draw
            refine JC_cutF (γ := Nat × Nat) (fun _ => True) (fun q => [(9, .slice (some ⟨q.1, 0, none⟩) (os.length + 1) q.2), (10, .slice av xs.length cv)]) (fun q => [ow (.slice (some ⟨q.1, 0, none⟩) (os.length + 1) q.2) 3 1 (os.length + 1) (os.flatMap encI ++ [I g])]) [bx b7 [I ((k' + 1 : Nat) : Int)]] (fun K hK => ?_) (fun q _ => ?_)
            · refine JC_draw [3] (by kernel_rfl) ?_
              refine JA_pd (i := 0) rfl (by kernel_rfl) rfl rfl (det_move rfl) ?_
              refine JA_pd (i := 1) rfl (by kernel_rfl) rfl rfl (det_move rfl) ?_
              refine JA_ready (rs := [2, 4]) (by kernel_rfl) rfl ?_
              refine JAl_cons (i := 2) rfl rfl (jo_buildSlice rfl (bsl_23_1_0 _)) (fun _ => ⟨hsub_drop 1 rfl, fun _ h => h⟩) (fun b78 => ?_) ?_
              · refine JA_ready (rs := [3, 4]) (by kernel_rfl) rfl ?_
                refine JAl_consT (i := 3) rfl rfl rfl rfl (jo_append el_23 rfl rfl rfl rfl (by omega)) (fun b79 => ?_) ?_
                · refine JT_pd (i := 5) rfl (by kernel_rfl) rfl rfl (det_assign rfl) ?_
                  refine JT_one (i := 4) (by kernel_rfl) rfl rfl (Det.jo (det_loadK rfl Try.isAgg36 rfl) (by intro c h; cases h)) fun _ => ?_
                  refine JT_pd (i := 6) rfl (by kernel_rfl) rfl rfl (det_assign rfl) ?_
                  refine JT_done (by kernel_rfl) ?_
                  exact JE_cutF hK b79 trivial (stsub_cons rfl (stsub_cons rfl stsub_nil)) (ht_ow rfl rfl ht_nil)
                refine JAl_cons (i := 4) rfl rfl (Det.jo (det_loadK rfl Try.isAgg36 rfl) (by intro c h; cases h)) (fun _ => ⟨hsub_refl, fun _ h => h⟩) (fun _ => ?_) ?_
                · refine JA_tail (i := 3) (by kernel_rfl) rfl rfl rfl rfl (jo_append el_23 rfl rfl rfl rfl (by omega)) fun b79 => ?_
                  refine JT_pd (i := 5) rfl (by kernel_rfl) rfl rfl (det_assign rfl) ?_
                  refine JT_pd (i := 6) rfl (by kernel_rfl) rfl rfl (det_assign rfl) ?_
                  refine JT_done (by kernel_rfl) ?_
                  exact JE_cutF hK b79 trivial (stsub_cons rfl (stsub_cons rfl stsub_nil)) (ht_ow rfl rfl ht_nil)
                exact JAl_nil
              refine JAl_cons (i := 4) rfl rfl (Det.jo (det_loadK rfl Try.isAgg36 rfl) (by intro c h; cases h)) (fun _ => ⟨hsub_refl, fun _ h => h⟩) (fun _ => ?_) ?_
              · refine JA_one (i := 2) (by kernel_rfl) rfl rfl (jo_buildSlice rfl (bsl_23_1_0 _)) (fun _ => ⟨hsub_drop 1 rfl, fun _ h => h⟩) fun b78 => ?_
                refine JA_tail (i := 3) (by kernel_rfl) rfl rfl rfl rfl (jo_append el_23 rfl rfl rfl rfl (by omega)) fun b79 => ?_
                refine JT_pd (i := 5) rfl (by kernel_rfl) rfl rfl (det_assign rfl) ?_
                refine JT_pd (i := 6) rfl (by kernel_rfl) rfl rfl (det_assign rfl) ?_
                refine JT_done (by kernel_rfl) ?_
                exact JE_cutF hK b79 trivial (stsub_cons rfl (stsub_cons rfl stsub_nil)) (ht_ow rfl rfl ht_nil)
              exact JAl_nil
            dsimp only [List.cons_append, List.nil_append]
            refine JC_exit ?_
            refine JE_block_on rfl ?_
            refine JE_seq_exit ?_
            refine JE_then_exit ?_
            refine JE_block_on rfl ?_
            refine JE_block_here ?_
            refine JE_seq ?_
            refine JC_region ?_
            refine JL_dt rfl (det_loadK rfl Try.isAgg3 rfl) ?_
            refine JL_pd rfl (det_sub rfl rfl ⟨by omega, by omega⟩) ?_
            refine JL_step0 rfl rfl (jo_store rfl rfl rfl (by first | (simp only [splice_norm]; done) | (simp only [splice_norm]; rfl) | rfl) Try.sizeOf3 rfl rfl) fun _ => ?_
            refine JL_nil ?_
            -- stop: end
            refine JE_roundF hK ⟨k', behW m m.locks w (g : Int), .slice (some ⟨q.1, 0, none⟩) (os.length + 1) q.2, os ++ [(g : Int)], av, cv, xs⟩
              ⟨hpre.step hg2, hw2, fun s => (hd s).trans (Iff.trans ⟨fun ⟨s', q1, q2, q3⟩ => ⟨s', (hmem s').1 q1, q2, q3⟩, fun ⟨s', q1, q2, q3⟩ => ⟨s', (hmem s').2 q1, q2, q3⟩⟩ (hstep s).symm), by simpa using hall, by simp <;> omega⟩ (by simp only; omega) (stsub_cons rfl (stsub_cons rfl stsub_nil)) (ht_bx (by simp <;> omega) (ht_ow (by simp) (by simp [encI]) ht_nil))
          · have hxe : xs = [] := by
              cases xs with
              | nil => rfl
              | cons _ _ => simp at h5
            refine JC_skip ?_
            refine JE_block ?_
            refine JE_seq ?_
            refine JC_region ?_
            refine JL_pd rfl (det_add rfl rfl ⟨by omega, by omega⟩) ?_
            refine JL_pd rfl (det_move rfl) ?_
            refine JL_nil ?_
            -- stop: end
            refine JE_roundF hK2 (g + 1) ⟨by omega, fun j hj => ?_⟩ (by omega) (stsub_consI rfl (by omega) stsub_nil) ht_nil
            by_cases hjg : j < g
            · exact hno j hjg
            · obtain rfl : j = g := by omega
              cases hwj : witW m m.locks goal k' (behW m m.locks w (j : Int)) with
              | false => rfl
              | true =>
                obtain ⟨t0, ht0⟩ := ((hpre.step hg2).now V hf).2 hwj
                obtain ⟨s, q1, q2, q3⟩ := (hstep t0).1 ht0
                have := (hd t0).2 ⟨s, (hmem s).2 q1, q2, q3⟩
                rw [hxe] at this; cases this
      · obtain rfl : g = 8 := by omega
        obtain ⟨g, hg8, hgw⟩ := hpre.some_ V hwit
        rw [hno g hg8] at hgw
        cases hgw
    · obtain rfl : k = 0 := by omega
      have hos : os = full := by simpa [wayL] using hall
      subst hos
      refine JC_slice (enc := encI) (v := u) os noFp rfl rfl ?_
      rintro av cv rfl
      refine JC_exit ?_
      refine JE_seq_exit ?_
      refine JE_then_exit ?_
      refine JE_block_here ?_
      refine JE_seq ?_
      refine JC_seq ?_
      refine JC_region ?_
      refine JL_pd rfl (det_move rfl) ?_
      refine JL_pd rfl (det_assign rfl) ?_
      refine JL_pd rfl (det_assign rfl) ?_
      refine JL_nil ?_
      refine JE_seq ?_
      refine JC_ret ?_
      refine JE_scope_ret ?_
      -- stop: out
      refine JE_out (.inl rfl) (av, cv) (results2 Try.results64 (res_tmp rfl) (res_tmp rfl)) rfl (List.Perm.refl _) (fun w h => h.1)
end Go.Proofs.Ytgbfjcgjcnndpaa

/- The statements about bill: BillMore. -/
import Derived.Test.YtjbmkdbgobmclaaB48
set_option linter.unusedSimpArgs false
set_option linter.unusedVariables false
namespace Go.Proofs.Ytjbmkdbgobmclaa
open Go.RowKit Go.Shelf

theorem set_mid {α : Type} : ∀ (A B C : List α) (c : Nat) (v : α), c < B.length → (A ++ B ++ C).set (A.length + c) v = A ++ B.set c v ++ C
  | [], B, C, c, v, h => by simp [List.set_append_left _ _ h]
  | a :: A, B, C, c, v, h => by
    have := set_mid A B C c v h
    simp only [List.cons_append, List.length_cons]
    rw [show A.length + 1 + c = (A.length + c) + 1 by omega, List.set_cons_succ, this]
theorem splice_mid : ∀ (vs A B C : List Value) (c : Nat), c + vs.length ≤ B.length → splice (A ++ B ++ C) (A.length + c) vs = A ++ splice B c vs ++ C
  | [], A, B, C, c, _ => rfl
  | v :: vs, A, B, C, c, h => by
    simp only [List.length_cons] at h
    rw [splice, splice, set_mid A B C c v (by omega), Nat.add_assoc]
    exact splice_mid vs A (B.set c v) C (c + 1) (by rw [List.length_set]; omega)
theorem splice_in {α : Type} (enc : α → List Value) {z : Nat} [hz : Rec enc z] (xs : List α) (i : Nat) (y : α) (c : Nat) (vs : List Value) (hi : i < xs.length) (hc : c + vs.length ≤ z) (hy : splice (enc xs[i]) c vs = enc y) : splice (xs.flatMap enc) (i * z + c) vs = (xs.set i y).flatMap enc := by
  have e : xs.flatMap enc = (xs.take i).flatMap enc ++ enc xs[i] ++ (xs.drop (i + 1)).flatMap enc := by
    conv => lhs; rw [← List.take_append_drop i xs, List.drop_eq_getElem_cons hi, List.flatMap_append, List.flatMap_cons, ← List.append_assoc]
  have hl : ((xs.take i).flatMap enc).length = i * z := by rw [flat_len, List.length_take, Nat.min_eq_left (by omega)]
  rw [e, ← hl, splice_mid _ _ _ _ _ (by rw [hz.len]; exact hc), hy, List.set_eq_take_append_cons_drop, if_pos hi, List.flatMap_append, List.flatMap_cons, ← List.append_assoc]
/-- The first offers may be bought 12 times. -/
def fullN (l : List Of) (i : Nat) : List Of := full (l.take i) ++ l.drop i
theorem fullN_len (l : List Of) (i : Nat) : (fullN l i).length = l.length := by
  unfold fullN full
  rw [List.length_append, List.length_map, List.length_take, List.length_drop]; omega
theorem fullN_set {l : List Of} {i : Nat} (h : i < l.length) : ∃ h2 : i < (fullN l i).length, (fullN l i)[i] = l[i] ∧ (fullN l i).set i (full1 l[i]) = fullN l (i + 1) := by
  have hl : (full (l.take i)).length = i := by unfold full; rw [List.length_map, List.length_take]; omega
  refine ⟨by rw [fullN_len]; exact h, ?_, ?_⟩
  · unfold fullN
    rw [List.getElem_append_right (by omega), List.getElem_drop]
    congr 1; omega
  · unfold fullN
    rw [List.set_append_right _ _ (by omega), hl, Nat.sub_self, List.drop_eq_getElem_cons h, List.set_cons_zero, take_snoc h]
    unfold full
    rw [List.map_append, List.append_assoc]; rfl
theorem fullN_0 (l : List Of) : fullN l 0 = l := by unfold fullN full; simp
theorem fullN_all (l : List Of) : fullN l l.length = full l := by unfold fullN; rw [List.take_length, List.drop_length, List.append_nil]
/-- Best, where what is asked is valid: its error is none, or that there is no purchase. -/
theorem bb {l : List Of} {need : Am} {at_ : Int} (h : askE l need at_ = 0) : (bErr l need at_ = 0 ∨ bErr l need at_ = 9) ∧ 0 ≤ bCost (bR l need at_) ∧ bCost (bR l need at_) ≤ 720000 := by
  obtain ⟨ht, hna, _⟩ := ask_of h
  obtain ⟨hl, hV⟩ := tar_of ht
  rcases bErr_cases h with ⟨e, hb⟩ | ⟨b, hb, e, hc⟩
  · rw [(bR_none h hb).1]
    exact ⟨.inr e, Int.le_refl _, by decide⟩
  · obtain ⟨s1, s2, s3⟩ := bst_sound at_ l need b hV (am12_of hna) hb
    have h0 := hvP_0 hV s1
    have e2 : b.cost = coP l b.list := congrArg Bt.cost s3
    rw [hc]
    exact ⟨.inl e, by omega, by omega⟩
theorem bb_le {l l' : List Of} {need need' : Am} {at_ : Int} (h : askE l need at_ = 0) (h' : askE l' need' at_ = 0) (hle : ∀ b, bst at_ l need = some b → ∃ c, bst at_ l' need' = some c ∧ c.cost ≤ b.cost) : bErr l need at_ = 0 → bErr l' need' at_ = 0 ∧ bCost (bR l' need' at_) ≤ bCost (bR l need at_) := fun e => by
  rcases bErr_cases h with ⟨e1, _⟩ | ⟨b, hb, _, hc⟩
  · omega
  · obtain ⟨d, hd, hdc⟩ := hle b hb
    obtain ⟨f1, f2⟩ := bR_ok h' hd
    rw [f1, f2, hc]
    exact ⟨rfl, hdc⟩
set_option maxRecDepth 100000 in
set_option maxHeartbeats 8000000 in
theorem BillMore_j (a : Option Addr) (c : Nat) (ls : List Of) (need other : Am) (at_ : Int) (wn : Nat) (o : Of) (hwn : wn ≤ 255) : Cv Try.prog 5 [.slice a ls.length c, .agg #[I need.g, I need.q, I need.s], .agg #[I other.g, I other.q, I other.s], I at_, .int .u8 wn, .agg #[I o.price, I o.am.g, I o.am.q, I o.am.s, I o.lo, I o.hi, I o.most]] (KSl a ls.length c encO ls) (.bool true) := by
  refine Cx_of Try.func5 rfl Try.ntmps5 rfl fun w0 M0 => ?_
  refine JC_seq ?_
  refine JC_region ?_
  refine JL_step rfl rfl rfl (jo_box rfl rfl) fun b7 => ?_
  refine JL_step rfl rfl rfl (jo_box rfl rfl) fun b8 => ?_
  refine JL_step rfl rfl rfl (jo_box rfl rfl) fun b11 => ?_
  refine JL_pd rfl (det_assign rfl) ?_
  refine JL_nil ?_
  refine JE_seq ?_
  refine JC_seq ?_
  refine JC_seq ?_
  refine JC_region ?_
  refine JL_pd rfl (det_move rfl) ?_
  refine JL_dt rfl (det_loadKA rfl Try.isAgg52 Try.sizeOf52 rfl rfl) ?_
  refine JL_pd rfl (det_move rfl) ?_
  refine JL_step rfl rfl rfl (jo_callv rfl rfl Try.call31 rfl (ready_j a c ls need at_)) fun _ => ?_
  refine JL_pd rfl (det_not rfl) ?_
  refine JL_nil ?_
  refine JE_seq ?_
  -- stop: cond
  refine JC_cond rfl (fun h1 => ?_) (fun h1 => ?_)
  · refine JC_seq ?_
    refine JC_region ?_
    refine JL_step rfl rfl rfl (jo_callv rfl rfl Try.call16 rfl (awake_j)) fun _ => ?_
    refine JL_pd rfl (det_assign rfl) ?_
    refine JL_nil ?_
    refine JE_seq ?_
    refine JC_ret ?_
    refine JE_seq_ret ?_
    -- stop: out
    refine JE_out (.inl rfl) () (results1 Try.results5 (res_tmp rfl)) rfl (List.Perm.refl _) (fun _ _ => trivial)
  · simp only [Bool.not_eq_false'] at h1
    have hr2 := h1
    unfold readyB at hr2
    rw [Bool.and_eq_true, decide_eq_true_eq, decide_eq_true_eq] at hr2
    obtain ⟨hl9, hE⟩ := hr2
    obtain ⟨ht, hna, ha1, ha2⟩ := ask_of hE
    obtain ⟨hl6, hV⟩ := tar_of ht
    have hn12 := am12_of hna
    have q1 : (wn : Int).tdiv 4 = ((wn / 4 : Nat) : Int) := by rw [Int.tdiv_eq_ediv_of_nonneg (by omega)]; rfl
    have q2 : (wn : Int).tdiv 16 = ((wn / 16 : Nat) : Int) := by rw [Int.tdiv_eq_ediv_of_nonneg (by omega)]; rfl
    have hmod : ∀ n : Nat, 0 ≤ (n : Int).tmod 3 ∧ (n : Int).tmod 3 ≤ 2 := fun n => by rw [Int.tmod_eq_emod_of_nonneg (by omega)]; omega
    have m1 := hmod wn
    have m2 := hmod (wn / 4)
    have m3 := hmod (wn / 16)
    rw [← q1] at m2
    rw [← q2] at m3
    have n1 := hn12.1
    have n2 := hn12.2.1
    have n3 := hn12.2.2.1
    have n4 := hn12.2.2.2.1
    have n5 := hn12.2.2.2.2.1
    have n6 := hn12.2.2.2.2.2
    refine JC_skip ?_
    refine JE_seq ?_
    refine JC_seq ?_
    refine JC_region ?_
    refine JL_pd rfl (det_fieldAddr rfl fo_52_0) ?_
    refine JL_dt rfl (det_loadK rfl Try.isAgg3 rfl) ?_
    refine JL_pd rfl (det_move rfl) ?_
    refine JL_pd rfl (det_convI rfl Try.runUnderlying5 Try.runUnderlying3 (i64_wrap ⟨by omega, by omega⟩)) ?_
    refine JL_pd rfl (det_rem rfl rfl (by omega)) ?_
    refine JL_pd rfl (det_sub rfl rfl ⟨by omega, by omega⟩) ?_
    refine JL_pd rfl (det_max rfl rfl) ?_
    refine JL_pd rfl (det_fieldAddr rfl fo_52_1) ?_
    refine JL_dt rfl (det_loadK rfl Try.isAgg3 rfl) ?_
    refine JL_pd rfl (det_move rfl) ?_
    refine JL_pd rfl (det_convI rfl Try.runUnderlying5 Try.runUnderlying3 (i64_wrap ⟨by omega, by omega⟩)) ?_
    refine JL_pd rfl (det_quo rfl rfl (by decide) (by rw [q1]; exact ⟨by omega, by omega⟩)) ?_
    refine JL_pd rfl (det_rem rfl rfl (by omega)) ?_
    refine JL_pd rfl (det_sub rfl rfl ⟨by omega, by omega⟩) ?_
    refine JL_pd rfl (det_max rfl rfl) ?_
    refine JL_pd rfl (det_fieldAddr rfl fo_52_2) ?_
    refine JL_dt rfl (det_loadK rfl Try.isAgg3 rfl) ?_
    refine JL_pd rfl (det_move rfl) ?_
    refine JL_pd rfl (det_convI rfl Try.runUnderlying5 Try.runUnderlying3 (i64_wrap ⟨by omega, by omega⟩)) ?_
    refine JL_pd rfl (det_quo rfl rfl (by decide) (by rw [q2]; exact ⟨by omega, by omega⟩)) ?_
    refine JL_pd rfl (det_rem rfl rfl (by omega)) ?_
    refine JL_pd rfl (det_sub rfl rfl ⟨by omega, by omega⟩) ?_
    refine JL_pd rfl (det_max rfl rfl) ?_
    refine JL_pd rfl (det_build rfl (bld_52_0_1_2 _ _ _)) ?_
    refine JL_step rfl rfl rfl (jo_alloc0 Try.zeroValue52 rfl) fun b13 => ?_
    refine JL_step0 rfl rfl (jo_store rfl rfl rfl (by first | (simp only [splice_norm]; done) | (simp only [splice_norm]; rfl) | rfl) Try.sizeOf52 rfl rfl) fun _ => ?_
    refine JL_nil ?_
    refine JE_seq ?_
    refine JC_seq ?_
    -- stop: region
    obtain ⟨less, hless⟩ : ∃ x : Am, x = ⟨max 0 (need.g - (wn : Int).tmod 3), max 0 (need.q - ((wn : Int).tdiv 4).tmod 3), max 0 (need.s - ((wn : Int).tdiv 16).tmod 3)⟩ := ⟨_, rfl⟩
    have hl12 : am12 less := by rw [hless]; unfold am12; simp only; omega
    have hll : leA less need = true := leA_iff.2 (by rw [hless]; simp only; omega)
    rw [show max 0 (need.g - (wn : Int).tmod 3) = less.g from by rw [hless], show max 0 (need.q - ((wn : Int).tdiv 4).tmod 3) = less.q from by rw [hless], show max 0 (need.s - ((wn : Int).tdiv 16).tmod 3) = less.s from by rw [hless]]
    refine JC_keep b7 noFp ?_
    refine JC_keep b8 noFp ?_
    refine JC_keep b11 noFp ?_
    refine JC_keep b13 noFp ?_
    refine JC_region ?_
    refine JL_step rfl rfl rfl (jo_buildOwn (z := 7) rfl (bsl_50_0) rfl (by decide)) fun b66 => ?_
    refine JL_pd rfl (det_move rfl) ?_
    refine JL_step rfl rfl rfl (jo_appendK (e := encO) el_50 rfl rfl encO_one (by omega)) fun b68 => ?_
    refine JL_step rfl rfl rfl (jo_buildOwn (z := 7) rfl (bsl_50_0) rfl (by decide)) fun b69 => ?_
    refine JL_pd rfl (det_move rfl) ?_
    refine JL_step rfl rfl rfl (jo_appendK (e := encO) el_50 rfl rfl encO_one (by omega)) fun b71 => ?_
    refine JL_pd rfl (det_assign rfl) ?_
    refine JL_pd rfl (det_assign rfl) ?_
    refine JL_nil ?_
    refine JE_seq ?_
    refine JC_seq ?_
    refine JC_seq ?_
    refine JC_region ?_
    refine JL_pd rfl (det_move rfl) ?_
    refine JL_pd rfl (det_len rfl Try.runUnderlying50) ?_
    refine JL_pd rfl (det_lss rfl rfl) ?_
    refine JL_nil ?_
    refine JE_seq ?_
    -- stop: cond
    obtain ⟨xs, hxs⟩ : ∃ l : List Of, l = if ls.length < 6 then ls ++ [o] else ls := ⟨_, rfl⟩
    have hxl : xs.length ≤ 6 := by rw [hxs]; split <;> (try rw [List.length_append]) <;> (try simp only [List.length_cons, List.length_nil]) <;> omega
    refine JC_cutF (γ := Value) (fun _ => True) (fun v => [(14, v)]) (fun v => [ow v 54 7 xs.length (xs.flatMap encO)]) [ow b71 54 7 (0 + ls.length) ([] ++ ls.flatMap encO)] (fun K hK => ?_) (fun v14 _ => ?_)
    · skip
      -- stop: cond
      refine JC_if rfl (fun h2 => ?_) (fun h2 => ?_)
      · have hx1 : xs = ls ++ [o] := by rw [hxs, if_pos (by omega)]
        refine JC_region ?_
        refine JL_pd rfl (det_move rfl) ?_
        refine JL_dt rfl (det_loadKA rfl Try.isAgg54 Try.sizeOf54 rfl rfl) ?_
        refine JL_step rfl rfl rfl (jo_buildSlice rfl (bsl_50_1_0 _ _ _ _ _ _ _)) fun b77 => ?_
        refine JL_step rfl rfl rfl (jo_append el_50 rfl rfl rfl rfl (by omega)) fun b78 => ?_
        refine JL_pd rfl (det_assign rfl) ?_
        refine JL_nil ?_
        -- stop: end
        exact JE_cutF hK (.slice (some ⟨b78.1, 0, none⟩) (0 + ls.length + 1) b78.2) trivial (stsub_cons rfl stsub_nil) (ht_ow (by rw [hx1, List.length_append]; simp) (by rw [hx1, List.flatMap_append]; rfl) ht_nil)
      · have hx1 : xs = ls := by rw [hxs, if_neg (by omega)]
        refine JC_skip ?_
        -- stop: end
        exact JE_cutF hK b68 trivial (stsub_cons rfl stsub_nil) (ht_ow (by rw [hx1]; omega) (by rw [hx1]; rfl) ht_nil)
    · dsimp only [List.cons_append, List.nil_append]
      refine JC_slice (enc := encO) (v := v14) xs noFp rfl rfl ?_
      rintro xa xc rfl
      refine JC_formS b71 ?_
      rintro ya yc rfl
      refine JC_seq ?_
      refine JC_seq ?_
      refine JC_region ?_
      refine JL_pd rfl (det_assign rfl) ?_
      refine JL_nil ?_
      refine JE_seq ?_
      refine JC_block ?_
      -- stop: loop
      refine JC_loopF (γ := Nat) (fun i => i ≤ ls.length) (fun i => [(16, I i)]) (fun i => [ow (.slice ya (0 + ls.length) yc) 54 7 (0 + ls.length) ((fullN ls i).flatMap encO)]) (fun i => ls.length - i) 0 (Nat.zero_le _) (stsub_consI rfl rfl stsub_nil) (ht_ow rfl (by rw [fullN_0]) ht_nil) ?_
      intro i hi K hK
      dsimp only [List.cons_append, List.nil_append]
      refine JC_seq ?_
      refine JC_seq ?_
      refine JC_region ?_
      refine JL_pd rfl (det_move rfl) ?_
      refine JL_pd rfl (det_move rfl) ?_
      refine JL_pd rfl (det_len rfl Try.runUnderlying50) ?_
      refine JL_pd rfl (det_lss rfl rfl) ?_
      refine JL_nil ?_
      refine JE_seq ?_
      -- stop: cond
      refine JC_if rfl (fun h2 => ?_) (fun h2 => ?_)
      · have hi2 : i < ls.length := by omega
        obtain ⟨f1, f2, f3⟩ := fullN_set hi2
        refine JC_some (cap := yc) (n := 0 + ls.length) ya (by omega) ?_
        rintro yb rfl
        refine JC_skip ?_
        refine JE_seq ?_
        refine JC_seq ?_
        refine JC_block ?_
        refine JC_region ?_
        refine JL_pd rfl (det_move rfl) ?_
        refine JL_pd rfl (det_move rfl) ?_
        refine JL_pd rfl (det_indexOwn (i := i) rfl rfl (by first | rfl | omega) (by first | assumption | omega) Try.runUnderlying50 Try.sizeOf54) ?_
        refine JL_pd rfl (det_fieldAddr rfl fo_54_3) ?_
        refine JL_step0 rfl rfl (jo_storeO (xs' := ((fullN ls i).set i (full1 ls[i])).flatMap encO) (vs := [I 12]) rfl rfl rfl (splice_in encO (fullN ls i) i (full1 ls[i]) 6 [I 12] f1 (by decide) (by rw [f2]; rfl)) Try.sizeOf3 (by rw [flat_len, fullN_len]; simp; omega) rfl) fun _ => ?_
        refine JL_nil ?_
        refine JE_block ?_
        refine JE_seq ?_
        refine JC_region ?_
        refine JL_pd rfl (det_move rfl) ?_
        refine JL_pd rfl (det_add rfl rfl ⟨by omega, by omega⟩) ?_
        refine JL_pd rfl (det_assign rfl) ?_
        refine JL_nil ?_
        -- stop: end
        refine JE_roundF hK (i + 1) (by omega) (by omega) (stsub_consI rfl (by omega) stsub_nil) (ht_ow rfl (by rw [f3]) ht_nil)
      · obtain rfl : i = ls.length := by omega
        rw [fullN_all]
        have hfl : (full ls).length = ls.length := by unfold full; rw [List.length_map]
        refine JC_slice (enc := encO) (v := .slice ya (0 + ls.length) yc) (full ls) noFp rfl (by rw [hfl]; omega) ?_
        rintro ya' yc' hy
        obtain ⟨rfl, rfl⟩ : ya = ya' ∧ yc = yc' := by simpa using hy
        rw [Nat.zero_add]
        have htf := full_tar ht
        have hEl := ask_ok (at_ := at_) ht (VAm_of hl12) ha1 ha2
        have hEf := ask_ok (at_ := at_) htf hna ha1 ha2
        have r1 := bb hE
        have r3 := bb hEf
        have r12 := bb_le hE hEl fun b hb => less_le hV hn12 hl12 hll hb
        have r13 := bb_le hE hEf fun b hb => full_le hV hn12 hb
        have r14 : tarE xs = 0 → bErr ls need at_ = 0 → bErr xs need at_ = 0 ∧ bCost (bR xs need at_) ≤ bCost (bR ls need at_) := fun hx => by
          refine bb_le hE (ask_ok hx hna ha1 ha2) fun b hb => ?_
          by_cases h6 : ls.length < 6
          · rw [if_pos h6] at hxs
            have hVx := (tar_of hx).2
            rw [hxs] at hVx ⊢
            exact more_le hV (hVx o (by simp)) hn12 hb
          · rw [if_neg h6] at hxs
            rw [hxs]
            exact ⟨b, hb, Int.le_refl _⟩
        have hob := fun (ho : VAm other) (both : Am) (hbo : VAm both) (e : both = ⟨need.g + other.g, need.q + other.q, need.s + other.s⟩) => (show bErr (full ls) need at_ = 0 → bErr (full ls) other at_ = 0 → bErr (full ls) both at_ = 0 ∧ bCost (bR (full ls) both at_) ≤ bCost (bR (full ls) need at_) + bCost (bR (full ls) other at_) from fun e3 e5 => by
          have hE5 := ask_ok (at_ := at_) htf ho ha1 ha2
          have hE6 := ask_ok (at_ := at_) htf hbo ha1 ha2
          rcases bErr_cases hEf with ⟨e1, _⟩ | ⟨b, hb, _, hc⟩
          · omega
          · rcases bErr_cases hE5 with ⟨e1, _⟩ | ⟨b5, hb5, _, hc5⟩
            · omega
            · obtain ⟨d, hd, hdc⟩ := both_le hV hn12 (am12_of ho) (am12_of hbo) e hb hb5
              obtain ⟨f1, f2⟩ := bR_ok hE6 hd
              rw [f1, f2, hc, hc5]
              exact ⟨rfl, hdc⟩)
        have hb5 := fun (ho : VAm other) => bb (ask_ok (at_ := at_) htf ho ha1 ha2)
        have hoj := lOffers_j a c ls (by omega)
        have hoy := lOffers_j ya yc (full ls) (by omega)
        have hox := lOffers_j xa xc xs (by omega)
        have u1 := fun a2 c2 => Best_u a2 c2 ls need at_
        have u2 := fun a2 c2 => Best_u a2 c2 ls less at_
        have u3 := fun a2 c2 => Best_u a2 c2 (full ls) need at_
        have u4 := fun a2 c2 => Best_u a2 c2 xs need at_
        have u5 := fun a2 c2 => Best_u a2 c2 (full ls) other at_
        have u6 := fun both a2 c2 => Best_u a2 c2 (full ls) both at_
        simp only [hfl] at hoy u3 u5 u6
        generalize bErr ls need at_ = e1 at r1 r12 r13 r14 u1
        generalize bCost (bR ls need at_) = c1 at r1 r12 r13 r14 u1
        generalize bErr ls less at_ = e2 at r12 u2
        generalize bCost (bR ls less at_) = c2 at r12 u2
        generalize bErr (full ls) need at_ = e3 at r3 r13 hob u3
        generalize bCost (bR (full ls) need at_) = c3 at r3 r13 hob u3
        generalize bErr xs need at_ = e4 at r14 u4
        generalize bCost (bR xs need at_) = c4 at r14 u4
        generalize bErr (full ls) other at_ = e5 at hob hb5 u5
        generalize bCost (bR (full ls) other at_) = c5 at hob hb5 u5
        generalize bList (bR ls need at_) = L1 at u1
        generalize bList (bR ls less at_) = L2 at u2
        generalize bList (bR (full ls) need at_) = L3 at u3
        generalize bList (bR xs need at_) = L4 at u4
        generalize bList (bR (full ls) other at_) = L5 at u5
        obtain ⟨r1a, r1b, r1c⟩ := r1
        obtain ⟨r3a, r3b, r3c⟩ := r3
        refine JC_exit ?_
        refine JE_seq_exit ?_
        refine JE_then_exit ?_
        refine JE_block_here ?_
        refine JE_seq ?_
        refine JC_seq ?_
        refine JC_draw [] (by kernel_rfl) ?_
        refine JA_pd (i := 0) rfl (by kernel_rfl) rfl rfl (det_move rfl) ?_
        refine JA_dt (i := 2) rfl (by kernel_rfl) (by kernel_rfl) rfl rfl (det_loadKA rfl Try.isAgg52 Try.sizeOf52 rfl rfl) ?_
        refine JA_pd (i := 4) rfl (by kernel_rfl) rfl rfl (det_move rfl) ?_
        -- stop: op  1 t91 := (call (Call (value f33) (t90) (50)))   <0>   79
        refine JA_one (i := 1) (by kernel_rfl) rfl rfl (jo_call rfl rfl Try.call33 rfl (hoj)) (fun _ => ⟨hsub_drop 0 rfl, fun _ h => h.2⟩) fun y1 => ?_
        refine JA_one (i := 3) (by kernel_rfl) rfl rfl (jo_callv rfl rfl Try.call34 rfl (lAm_j _)) (fun _ => ⟨hsub_refl, fun _ h => h⟩) fun _ => ?_
        -- stop: op  5 t95 := (call (Call (value f32) (t91 t93 t94) (58 60 3)))   <1 3 4 3>   79
        refine JA_one (i := 5) (by kernel_rfl) rfl rfl (jo_call rfl rfl Try.call32 rfl (u1 y1.1 y1.2)) (fun _ => ⟨hsub_drop 0 rfl, fun _ h => h.2⟩) fun z1 => ?_
        refine JA_pd (i := 6) rfl (by kernel_rfl) rfl rfl (det_move rfl) ?_
        refine JA_pd (i := 7) rfl (by kernel_rfl) rfl rfl (det_extract rfl rfl) ?_
        refine JA_pd (i := 8) rfl (by kernel_rfl) rfl rfl (det_extract rfl rfl) ?_
        refine JA_pd (i := 9) rfl (by kernel_rfl) rfl rfl (det_extract rfl rfl) ?_
        refine JA_pd (i := 10) rfl (by kernel_rfl) rfl rfl (det_assign rfl) ?_
        refine JA_pd (i := 11) rfl (by kernel_rfl) rfl rfl (det_assign rfl) ?_
        refine JA_pd (i := 12) rfl (by kernel_rfl) rfl rfl (det_assign rfl) ?_
        refine JA_done (by kernel_rfl) ?_
        refine JE_seq ?_
        refine JC_seq ?_
        refine JC_draw [] (by kernel_rfl) ?_
        refine JA_pd (i := 0) rfl (by kernel_rfl) rfl rfl (det_move rfl) ?_
        refine JA_dt (i := 2) rfl (by kernel_rfl) (by kernel_rfl) rfl rfl (det_loadKA rfl Try.isAgg52 Try.sizeOf52 rfl rfl) ?_
        refine JA_pd (i := 4) rfl (by kernel_rfl) rfl rfl (det_move rfl) ?_
        -- stop: op  1 t101 := (call (Call (value f33) (t100) (50)))   <0>   80
        refine JA_one (i := 1) (by kernel_rfl) rfl rfl (jo_call rfl rfl Try.call33 rfl (hoj)) (fun _ => ⟨hsub_drop 0 rfl, fun _ h => h.2⟩) fun y2 => ?_
        refine JA_one (i := 3) (by kernel_rfl) rfl rfl (jo_callv rfl rfl Try.call34 rfl (lAm_j _)) (fun _ => ⟨hsub_refl, fun _ h => h⟩) fun _ => ?_
        -- stop: op  5 t105 := (call (Call (value f32) (t101 t103 t104) (58 60 3)))   <1 3 4 3>   80
        refine JA_one (i := 5) (by kernel_rfl) rfl rfl (jo_call rfl rfl Try.call32 rfl (u2 y2.1 y2.2)) (fun _ => ⟨hsub_drop 0 rfl, fun _ h => h.2⟩) fun z2 => ?_
        refine JA_pd (i := 6) rfl (by kernel_rfl) rfl rfl (det_move rfl) ?_
        refine JA_pd (i := 7) rfl (by kernel_rfl) rfl rfl (det_extract rfl rfl) ?_
        refine JA_pd (i := 8) rfl (by kernel_rfl) rfl rfl (det_extract rfl rfl) ?_
        refine JA_pd (i := 9) rfl (by kernel_rfl) rfl rfl (det_extract rfl rfl) ?_
        refine JA_pd (i := 10) rfl (by kernel_rfl) rfl rfl (det_assign rfl) ?_
        refine JA_pd (i := 11) rfl (by kernel_rfl) rfl rfl (det_assign rfl) ?_
        refine JA_pd (i := 12) rfl (by kernel_rfl) rfl rfl (det_assign rfl) ?_
        refine JA_done (by kernel_rfl) ?_
        refine JE_seq ?_
        refine JC_seq ?_
        refine JC_draw [] (by kernel_rfl) ?_
        refine JA_pd (i := 0) rfl (by kernel_rfl) rfl rfl (det_move rfl) ?_
        refine JA_dt (i := 2) rfl (by kernel_rfl) (by kernel_rfl) rfl rfl (det_loadKA rfl Try.isAgg52 Try.sizeOf52 rfl rfl) ?_
        refine JA_pd (i := 4) rfl (by kernel_rfl) rfl rfl (det_move rfl) ?_
        -- stop: op  1 t111 := (call (Call (value f33) (t110) (50)))   <0>   81
        refine JA_one (i := 1) (by kernel_rfl) rfl rfl (jo_call rfl rfl Try.call33 rfl (hoy)) (fun _ => ⟨hsub_drop 0 rfl, fun _ h => h.2⟩) fun y3 => ?_
        refine JA_one (i := 3) (by kernel_rfl) rfl rfl (jo_callv rfl rfl Try.call34 rfl (lAm_j _)) (fun _ => ⟨hsub_refl, fun _ h => h⟩) fun _ => ?_
        -- stop: op  5 t115 := (call (Call (value f32) (t111 t113 t114) (58 60 3)))   <1 3 4 3>   81
        refine JA_one (i := 5) (by kernel_rfl) rfl rfl (jo_call rfl rfl Try.call32 rfl (u3 y3.1 y3.2)) (fun _ => ⟨hsub_drop 0 rfl, fun _ h => h.2⟩) fun z3 => ?_
        refine JA_pd (i := 6) rfl (by kernel_rfl) rfl rfl (det_move rfl) ?_
        refine JA_pd (i := 7) rfl (by kernel_rfl) rfl rfl (det_extract rfl rfl) ?_
        refine JA_pd (i := 8) rfl (by kernel_rfl) rfl rfl (det_extract rfl rfl) ?_
        refine JA_pd (i := 9) rfl (by kernel_rfl) rfl rfl (det_extract rfl rfl) ?_
        refine JA_pd (i := 10) rfl (by kernel_rfl) rfl rfl (det_assign rfl) ?_
        refine JA_pd (i := 11) rfl (by kernel_rfl) rfl rfl (det_assign rfl) ?_
        refine JA_pd (i := 12) rfl (by kernel_rfl) rfl rfl (det_assign rfl) ?_
        refine JA_done (by kernel_rfl) ?_
        refine JE_seq ?_
        refine JC_seq ?_
        refine JC_seq ?_
        -- stop: region
        refine JC_cutF (γ := Unit) (fun _ => True) (fun _ => [(154, .bool false)]) (fun _ => []) [] (fun K hK => ?_) (fun _ _ => ?_)
        · refine JC_region ?_
          refine JL_pd rfl (det_move rfl) ?_
          refine JL_pd rfl (det_neq rfl rfl) ?_
          refine JL_pd rfl (det_move rfl) ?_
          -- stop: guard 2
          rcases r1a with rfl | rfl
          · obtain ⟨rfl, w2⟩ := r12 rfl
            obtain ⟨rfl, w3⟩ := r13 rfl
            refine JL_is (d0 := 121) false rfl (by rfl) (fun g1 => ?_)
            refine JL_skip rfl rfl g1 rfl ?_
            refine JL_skip rfl rfl g1 rfl ?_
            refine JL_pd rfl (det_pick_f rfl g1 rfl) ?_
            refine JL_pd rfl (det_move rfl) ?_
            -- stop: guard 6
            refine JL_is (d0 := 125) false rfl (by rfl) (fun g2 => ?_)
            refine JL_guard rfl rfl g2 ?_
            refine JL_pd rfl (det_move rfl) ?_
            refine JL_guard rfl rfl g2 ?_
            refine JL_pd rfl (det_neq rfl rfl) ?_
            refine JL_guard rfl rfl g2 ?_
            refine JL_pd rfl (det_move rfl) ?_
            -- stop: guard 9
            refine JL_is (d0 := 128) false rfl (by rfl) (fun g3 => ?_)
            refine JL_skip rfl rfl g3 rfl ?_
            refine JL_skip rfl rfl g3 rfl ?_
            refine JL_guard rfl rfl g2 ?_
            refine JL_pd rfl (det_pick_f rfl g3 rfl) ?_
            refine JL_pd rfl (det_pick_f rfl g2 rfl) ?_
            refine JL_pd rfl (det_move rfl) ?_
            -- stop: guard 14
            refine JL_is (d0 := 133) false rfl (by rfl) (fun g4 => ?_)
            refine JL_guard rfl rfl g4 ?_
            refine JL_pd rfl (det_move rfl) ?_
            refine JL_guard rfl rfl g4 ?_
            refine JL_pd rfl (det_eql rfl rfl) ?_
            refine JL_guard rfl rfl g4 ?_
            refine JL_pd rfl (det_move rfl) ?_
            -- stop: guard 17
            refine JL_is (d0 := 136) true rfl (by rfl) (fun g5 => ?_)
            refine JL_guard rfl rfl g5 ?_
            refine JL_pd rfl (det_move rfl) ?_
            refine JL_guard rfl rfl g5 ?_
            refine JL_pd rfl (det_neq rfl rfl) ?_
            refine JL_guard rfl rfl g5 ?_
            refine JL_pd rfl (det_move rfl) ?_
            -- stop: guard 20
            refine JL_is (d0 := 139) false rfl (by rfl) (fun g6 => ?_)
            refine JL_guard rfl rfl g6 ?_
            refine JL_pd rfl (det_move rfl) ?_
            refine JL_guard rfl rfl g6 ?_
            refine JL_pd rfl (det_move rfl) ?_
            refine JL_guard rfl rfl g6 ?_
            refine JL_pd rfl (det_gtr rfl rfl) ?_
            refine JL_guard rfl rfl g5 ?_
            refine JL_pd rfl (det_pick_f rfl g6 rfl) ?_
            refine JL_guard rfl rfl g5 ?_
            refine JL_pd rfl (det_move rfl) ?_
            -- stop: guard 25
            refine JL_is (d0 := 144) false rfl (by exact decide_eq_false (by omega)) (fun g7 => ?_)
            refine JL_guard rfl rfl g7 ?_
            refine JL_pd rfl (det_move rfl) ?_
            refine JL_guard rfl rfl g7 ?_
            refine JL_pd rfl (det_neq rfl rfl) ?_
            refine JL_guard rfl rfl g5 ?_
            refine JL_pd rfl (det_pick_f rfl g7 rfl) ?_
            refine JL_guard rfl rfl g5 ?_
            refine JL_pd rfl (det_move rfl) ?_
            -- stop: guard 29
            refine JL_is (d0 := 148) false rfl (by rfl) (fun g8 => ?_)
            refine JL_guard rfl rfl g8 ?_
            refine JL_pd rfl (det_move rfl) ?_
            refine JL_guard rfl rfl g8 ?_
            refine JL_pd rfl (det_move rfl) ?_
            refine JL_guard rfl rfl g8 ?_
            refine JL_pd rfl (det_gtr rfl rfl) ?_
            refine JL_guard rfl rfl g5 ?_
            refine JL_pd rfl (det_pick_f rfl g8 rfl) ?_
            refine JL_guard rfl rfl g4 ?_
            refine JL_pd rfl (det_pick_t rfl g5 rfl) ?_
            refine JL_pd rfl (det_pick_f rfl g4 rfl) ?_
            refine JL_nil ?_
            -- stop: end
            exact JE_cutF hK () trivial (stsub_consB rfl (decide_eq_false (by omega)) stsub_nil) ht_nil
          · rcases r3a with rfl | rfl
            · skip
              refine JL_is (d0 := 121) true rfl (by rfl) (fun g1 => ?_)
              refine JL_guard rfl rfl g1 ?_
              refine JL_pd rfl (det_move rfl) ?_
              refine JL_guard rfl rfl g1 ?_
              refine JL_pd rfl (det_neq rfl rfl) ?_
              refine JL_pd rfl (det_pick_t rfl g1 rfl) ?_
              refine JL_pd rfl (det_move rfl) ?_
              -- stop: guard 6
              refine JL_is (d0 := 125) false rfl (by rfl) (fun g2 => ?_)
              refine JL_guard rfl rfl g2 ?_
              refine JL_pd rfl (det_move rfl) ?_
              refine JL_guard rfl rfl g2 ?_
              refine JL_pd rfl (det_neq rfl rfl) ?_
              refine JL_guard rfl rfl g2 ?_
              refine JL_pd rfl (det_move rfl) ?_
              -- stop: guard 9
              refine JL_is (d0 := 128) false rfl (by rfl) (fun g3 => ?_)
              refine JL_skip rfl rfl g3 rfl ?_
              refine JL_skip rfl rfl g3 rfl ?_
              refine JL_guard rfl rfl g2 ?_
              refine JL_pd rfl (det_pick_f rfl g3 rfl) ?_
              refine JL_pd rfl (det_pick_f rfl g2 rfl) ?_
              refine JL_pd rfl (det_move rfl) ?_
              -- stop: guard 14
              refine JL_is (d0 := 133) false rfl (by rfl) (fun g4 => ?_)
              refine JL_guard rfl rfl g4 ?_
              refine JL_pd rfl (det_move rfl) ?_
              refine JL_guard rfl rfl g4 ?_
              refine JL_pd rfl (det_eql rfl rfl) ?_
              refine JL_guard rfl rfl g4 ?_
              refine JL_pd rfl (det_move rfl) ?_
              -- stop: guard 17
              refine JL_is (d0 := 136) false rfl (by rfl) (fun g5 => ?_)
              refine JL_skip rfl rfl g5 rfl ?_
              refine JL_skip rfl rfl g5 rfl ?_
              refine JL_skip rfl rfl g5 rfl ?_
              refine JL_skipU rfl rfl rfl ?_
              refine JL_skipU rfl rfl rfl ?_
              refine JL_skipU rfl rfl rfl ?_
              refine JL_skip rfl rfl g5 rfl ?_
              refine JL_skip rfl rfl g5 rfl ?_
              refine JL_skipU rfl rfl rfl ?_
              refine JL_skipU rfl rfl rfl ?_
              refine JL_skip rfl rfl g5 rfl ?_
              refine JL_skip rfl rfl g5 rfl ?_
              refine JL_skipU rfl rfl rfl ?_
              refine JL_skipU rfl rfl rfl ?_
              refine JL_skipU rfl rfl rfl ?_
              refine JL_skip rfl rfl g5 rfl ?_
              refine JL_guard rfl rfl g4 ?_
              refine JL_pd rfl (det_pick_f rfl g5 rfl) ?_
              refine JL_pd rfl (det_pick_f rfl g4 rfl) ?_
              refine JL_nil ?_
              -- stop: end
              exact JE_cutF hK () trivial (stsub_consB rfl rfl stsub_nil) ht_nil
            · skip
              refine JL_is (d0 := 121) true rfl (by rfl) (fun g1 => ?_)
              refine JL_guard rfl rfl g1 ?_
              refine JL_pd rfl (det_move rfl) ?_
              refine JL_guard rfl rfl g1 ?_
              refine JL_pd rfl (det_neq rfl rfl) ?_
              refine JL_pd rfl (det_pick_t rfl g1 rfl) ?_
              refine JL_pd rfl (det_move rfl) ?_
              -- stop: guard 6
              refine JL_is (d0 := 125) false rfl (by rfl) (fun g2 => ?_)
              refine JL_guard rfl rfl g2 ?_
              refine JL_pd rfl (det_move rfl) ?_
              refine JL_guard rfl rfl g2 ?_
              refine JL_pd rfl (det_neq rfl rfl) ?_
              refine JL_guard rfl rfl g2 ?_
              refine JL_pd rfl (det_move rfl) ?_
              -- stop: guard 9
              refine JL_is (d0 := 128) true rfl (by rfl) (fun g3 => ?_)
              refine JL_guard rfl rfl g3 ?_
              refine JL_pd rfl (det_move rfl) ?_
              refine JL_guard rfl rfl g3 ?_
              refine JL_pd rfl (det_neq rfl rfl) ?_
              refine JL_guard rfl rfl g2 ?_
              refine JL_pd rfl (det_pick_t rfl g3 rfl) ?_
              refine JL_pd rfl (det_pick_f rfl g2 rfl) ?_
              refine JL_pd rfl (det_move rfl) ?_
              -- stop: guard 14
              refine JL_is (d0 := 133) false rfl (by rfl) (fun g4 => ?_)
              refine JL_guard rfl rfl g4 ?_
              refine JL_pd rfl (det_move rfl) ?_
              refine JL_guard rfl rfl g4 ?_
              refine JL_pd rfl (det_eql rfl rfl) ?_
              refine JL_guard rfl rfl g4 ?_
              refine JL_pd rfl (det_move rfl) ?_
              -- stop: guard 17
              refine JL_is (d0 := 136) false rfl (by rfl) (fun g5 => ?_)
              refine JL_skip rfl rfl g5 rfl ?_
              refine JL_skip rfl rfl g5 rfl ?_
              refine JL_skip rfl rfl g5 rfl ?_
              refine JL_skipU rfl rfl rfl ?_
              refine JL_skipU rfl rfl rfl ?_
              refine JL_skipU rfl rfl rfl ?_
              refine JL_skip rfl rfl g5 rfl ?_
              refine JL_skip rfl rfl g5 rfl ?_
              refine JL_skipU rfl rfl rfl ?_
              refine JL_skipU rfl rfl rfl ?_
              refine JL_skip rfl rfl g5 rfl ?_
              refine JL_skip rfl rfl g5 rfl ?_
              refine JL_skipU rfl rfl rfl ?_
              refine JL_skipU rfl rfl rfl ?_
              refine JL_skipU rfl rfl rfl ?_
              refine JL_skip rfl rfl g5 rfl ?_
              refine JL_guard rfl rfl g4 ?_
              refine JL_pd rfl (det_pick_f rfl g5 rfl) ?_
              refine JL_pd rfl (det_pick_f rfl g4 rfl) ?_
              refine JL_nil ?_
              -- stop: end
              exact JE_cutF hK () trivial (stsub_consB rfl rfl stsub_nil) ht_nil
        dsimp only [List.cons_append, List.nil_append]
        -- stop: cond
        refine JC_cond rfl (fun h3 => ?_) (fun h3 => ?_)
        · cases h3
        refine JC_skip ?_
        refine JE_seq ?_
        refine JC_seq ?_
        refine JC_seq ?_
        refine JC_region ?_
        refine JL_pd rfl (det_move rfl) ?_
        refine JL_step rfl rfl rfl (jo_callv rfl rfl Try.call35 rfl (Fault_j xa xc xs (by omega))) fun _ => ?_
        refine JL_pd rfl (det_eql rfl rfl) ?_
        refine JL_nil ?_
        refine JE_seq ?_
        -- stop: cond
        refine JC_cutF (γ := Unit) (fun _ => True) (fun _ => []) (fun _ => []) [] (fun K hK => ?_) (fun _ _ => ?_)
        · skip
          -- stop: cond
          refine JC_if rfl (fun h4 => ?_) (fun h4 => ?_)
          · have r14 := r14 h4
            refine JC_seq ?_
            refine JC_draw [] (by kernel_rfl) ?_
            refine JA_pd (i := 0) rfl (by kernel_rfl) rfl rfl (det_move rfl) ?_
            refine JA_dt (i := 2) rfl (by kernel_rfl) (by kernel_rfl) rfl rfl (det_loadKA rfl Try.isAgg52 Try.sizeOf52 rfl rfl) ?_
            refine JA_pd (i := 4) rfl (by kernel_rfl) rfl rfl (det_move rfl) ?_
            -- stop: op  1 t160 := (call (Call (value f33) (t159) (50)))   <0>   86
            refine JA_one (i := 1) (by kernel_rfl) rfl rfl (jo_call rfl rfl Try.call33 rfl (hox)) (fun _ => ⟨hsub_drop 0 rfl, fun _ h => h.2⟩) fun y4 => ?_
            refine JA_one (i := 3) (by kernel_rfl) rfl rfl (jo_callv rfl rfl Try.call34 rfl (lAm_j _)) (fun _ => ⟨hsub_refl, fun _ h => h⟩) fun _ => ?_
            -- stop: op  5 t164 := (call (Call (value f32) (t160 t162 t163) (58 60 3)))   <1 3 4 3>   86
            refine JA_one (i := 5) (by kernel_rfl) rfl rfl (jo_call rfl rfl Try.call32 rfl (u4 y4.1 y4.2)) (fun _ => ⟨hsub_drop 0 rfl, fun _ h => h.2⟩) fun z4 => ?_
            refine JA_pd (i := 6) rfl (by kernel_rfl) rfl rfl (det_move rfl) ?_
            refine JA_pd (i := 7) rfl (by kernel_rfl) rfl rfl (det_extract rfl rfl) ?_
            refine JA_pd (i := 8) rfl (by kernel_rfl) rfl rfl (det_extract rfl rfl) ?_
            refine JA_pd (i := 9) rfl (by kernel_rfl) rfl rfl (det_extract rfl rfl) ?_
            refine JA_pd (i := 10) rfl (by kernel_rfl) rfl rfl (det_assign rfl) ?_
            refine JA_pd (i := 11) rfl (by kernel_rfl) rfl rfl (det_assign rfl) ?_
            refine JA_pd (i := 12) rfl (by kernel_rfl) rfl rfl (det_assign rfl) ?_
            refine JA_done (by kernel_rfl) ?_
            refine JE_seq ?_
            refine JC_seq ?_
            refine JC_region ?_
            refine JL_pd rfl (det_move rfl) ?_
            refine JL_pd rfl (det_eql rfl rfl) ?_
            refine JL_pd rfl (det_move rfl) ?_
            -- stop: guard 2
            rcases r1a with rfl | rfl
            · obtain ⟨rfl, w4⟩ := r14 rfl
              refine JL_is (d0 := 170) true rfl (by rfl) (fun g1 => ?_)
              refine JL_guard rfl rfl g1 ?_
              refine JL_pd rfl (det_move rfl) ?_
              refine JL_guard rfl rfl g1 ?_
              refine JL_pd rfl (det_neq rfl rfl) ?_
              refine JL_guard rfl rfl g1 ?_
              refine JL_pd rfl (det_move rfl) ?_
              -- stop: guard 5
              refine JL_is (d0 := 173) false rfl (by rfl) (fun g2 => ?_)
              refine JL_guard rfl rfl g2 ?_
              refine JL_pd rfl (det_move rfl) ?_
              refine JL_guard rfl rfl g2 ?_
              refine JL_pd rfl (det_move rfl) ?_
              refine JL_guard rfl rfl g2 ?_
              refine JL_pd rfl (det_gtr rfl rfl) ?_
              refine JL_guard rfl rfl g1 ?_
              refine JL_pd rfl (det_pick_f rfl g2 rfl) ?_
              refine JL_pd rfl (det_pick_t rfl g1 rfl) ?_
              refine JL_nil ?_
              refine JE_seq ?_
              -- stop: cond
              refine JC_if rfl (fun h5 => ?_) (fun h5 => ?_)
              · exact absurd h5 (by omega)
              refine JC_skip ?_
              -- stop: end
              exact JE_cutF hK () trivial stsub_nil ht_nil
            · skip
              refine JL_is (d0 := 170) false rfl (by rfl) (fun g1 => ?_)
              refine JL_skip rfl rfl g1 rfl ?_
              refine JL_skip rfl rfl g1 rfl ?_
              refine JL_skip rfl rfl g1 rfl ?_
              refine JL_skipU rfl rfl rfl ?_
              refine JL_skipU rfl rfl rfl ?_
              refine JL_skipU rfl rfl rfl ?_
              refine JL_skip rfl rfl g1 rfl ?_
              refine JL_pd rfl (det_pick_f rfl g1 rfl) ?_
              refine JL_nil ?_
              refine JE_seq ?_
              -- stop: cond
              refine JC_cond rfl (fun h5 => ?_) (fun h5 => ?_)
              · cases h5
              refine JC_skip ?_
              -- stop: end
              exact JE_cutF hK () trivial stsub_nil ht_nil
          · refine JC_skip ?_
            -- stop: end
            exact JE_cutF hK () trivial stsub_nil ht_nil
        · dsimp only [List.cons_append, List.nil_append]
          refine JC_seq ?_
          refine JC_region ?_
          refine JL_pd rfl (det_fieldAddr rfl fo_52_0) ?_
          refine JL_dt rfl (det_loadK rfl Try.isAgg3 rfl) ?_
          refine JL_pd rfl (det_fieldAddr rfl fo_52_0) ?_
          refine JL_dt rfl (det_loadK rfl Try.isAgg3 rfl) ?_
          refine JL_pd rfl (det_addR (IntKind.i64.wrap (need.g + other.g)) rfl rfl rfl) ?_
          refine JL_pd rfl (det_fieldAddr rfl fo_52_1) ?_
          refine JL_dt rfl (det_loadK rfl Try.isAgg3 rfl) ?_
          refine JL_pd rfl (det_fieldAddr rfl fo_52_1) ?_
          refine JL_dt rfl (det_loadK rfl Try.isAgg3 rfl) ?_
          refine JL_pd rfl (det_addR (IntKind.i64.wrap (need.q + other.q)) rfl rfl rfl) ?_
          refine JL_pd rfl (det_fieldAddr rfl fo_52_2) ?_
          refine JL_dt rfl (det_loadK rfl Try.isAgg3 rfl) ?_
          refine JL_pd rfl (det_fieldAddr rfl fo_52_2) ?_
          refine JL_dt rfl (det_loadK rfl Try.isAgg3 rfl) ?_
          refine JL_pd rfl (det_addR (IntKind.i64.wrap (need.s + other.s)) rfl rfl rfl) ?_
          refine JL_pd rfl (det_build rfl (bld_52_0_1_2 _ _ _)) ?_
          refine JL_step rfl rfl rfl (jo_alloc0 Try.zeroValue52 rfl) fun b29 => ?_
          refine JL_step0 rfl rfl (jo_store rfl rfl rfl (by first | (simp only [splice_norm]; done) | (simp only [splice_norm]; rfl) | rfl) Try.sizeOf52 rfl rfl) fun _ => ?_
          refine JL_nil ?_
          refine JE_seq ?_
          refine JC_seq ?_
          refine JC_seq ?_
          -- stop: region
          obtain ⟨both, hboth⟩ : ∃ x : Am, x = ⟨IntKind.i64.wrap (need.g + other.g), IntKind.i64.wrap (need.q + other.q), IntKind.i64.wrap (need.s + other.s)⟩ := ⟨_, rfl⟩
          rw [show IntKind.i64.wrap (need.g + other.g) = both.g from by rw [hboth], show IntKind.i64.wrap (need.q + other.q) = both.q from by rw [hboth], show IntKind.i64.wrap (need.s + other.s) = both.s from by rw [hboth]]
          refine JC_keep b29 noFp ?_
          refine JC_region ?_
          refine JL_dt rfl (det_loadKA rfl Try.isAgg52 Try.sizeOf52 rfl rfl) ?_
          refine JL_step rfl rfl rfl (jo_callv rfl rfl Try.call36 rfl (IsAmount_j _)) fun _ => ?_
          refine JL_pd rfl (det_not rfl) ?_
          refine JL_pd rfl (det_move rfl) ?_
          -- stop: guard 3
          by_cases hoa : amOk other = true
          · refine JL_is (d0 := 198) false rfl (by rw [hoa]; rfl) (fun g3 => ?_)
            refine JL_guard rfl rfl g3 ?_
            refine JL_dt rfl (det_loadKA rfl Try.isAgg52 Try.sizeOf52 rfl rfl) ?_
            refine JL_guard rfl rfl g3 ?_
            refine JL_step rfl rfl rfl (jo_callv rfl rfl Try.call36 rfl (IsAmount_j _)) fun _ => ?_
            refine JL_guard rfl rfl g3 ?_
            refine JL_pd rfl (det_not rfl) ?_
            refine JL_pd rfl (det_pick_f rfl g3 rfl) ?_
            refine JL_nil ?_
            refine JE_seq ?_
            -- stop: cond
            refine JC_cond rfl (fun h6 => ?_) (fun h6 => ?_)
            · refine JC_seq ?_
              refine JC_region ?_
              refine JL_step rfl rfl rfl (jo_callv rfl rfl Try.call16 rfl (awake_j)) fun _ => ?_
              refine JL_pd rfl (det_assign rfl) ?_
              refine JL_nil ?_
              refine JE_seq ?_
              refine JC_ret ?_
              refine JE_seq_ret ?_
              -- stop: out
              refine JE_out (.inl rfl) () (results1 Try.results5 (res_tmp rfl)) rfl (List.Perm.refl _) (fun _ _ => trivial)
            · simp only [Bool.not_eq_false'] at h6
              have vo := amOk_iff.1 hoa
              have vb := amOk_iff.1 h6
              have hbe : both = ⟨need.g + other.g, need.q + other.q, need.s + other.s⟩ := by
                have := vo.g0
                have := vo.g1
                have := vo.q0
                have := vo.q1
                have := vo.s0
                have := vo.s1
                rw [hboth, i64_wrap (show InI (need.g + other.g) from ⟨by omega, by omega⟩), i64_wrap (show InI (need.q + other.q) from ⟨by omega, by omega⟩), i64_wrap (show InI (need.s + other.s) from ⟨by omega, by omega⟩)]
              have r6 := hob vo both vb hbe
              obtain ⟨r5a, r5b, r5c⟩ := hb5 vo
              have u6 := u6 both
              generalize bErr (full ls) both at_ = e6 at r6 u6
              generalize bCost (bR (full ls) both at_) = c6 at r6 u6
              generalize bList (bR (full ls) both at_) = L6 at u6
              refine JC_skip ?_
              refine JE_seq ?_
              refine JC_seq ?_
              refine JC_draw [] (by kernel_rfl) ?_
              refine JA_pd (i := 0) rfl (by kernel_rfl) rfl rfl (det_move rfl) ?_
              refine JA_dt (i := 2) rfl (by kernel_rfl) (by kernel_rfl) rfl rfl (det_loadKA rfl Try.isAgg52 Try.sizeOf52 rfl rfl) ?_
              refine JA_pd (i := 4) rfl (by kernel_rfl) rfl rfl (det_move rfl) ?_
              -- stop: op  1 t206 := (call (Call (value f33) (t205) (50)))   <0>   94
              refine JA_one (i := 1) (by kernel_rfl) rfl rfl (jo_call rfl rfl Try.call33 rfl (hoy)) (fun _ => ⟨hsub_drop 0 rfl, fun _ h => h.2⟩) fun y5 => ?_
              refine JA_one (i := 3) (by kernel_rfl) rfl rfl (jo_callv rfl rfl Try.call34 rfl (lAm_j _)) (fun _ => ⟨hsub_refl, fun _ h => h⟩) fun _ => ?_
              -- stop: op  5 t210 := (call (Call (value f32) (t206 t208 t209) (58 60 3)))   <1 3 4 3>   94
              refine JA_one (i := 5) (by kernel_rfl) rfl rfl (jo_call rfl rfl Try.call32 rfl (u5 y5.1 y5.2)) (fun _ => ⟨hsub_drop 0 rfl, fun _ h => h.2⟩) fun z5 => ?_
              refine JA_pd (i := 6) rfl (by kernel_rfl) rfl rfl (det_move rfl) ?_
              refine JA_pd (i := 7) rfl (by kernel_rfl) rfl rfl (det_extract rfl rfl) ?_
              refine JA_pd (i := 8) rfl (by kernel_rfl) rfl rfl (det_extract rfl rfl) ?_
              refine JA_pd (i := 9) rfl (by kernel_rfl) rfl rfl (det_extract rfl rfl) ?_
              refine JA_pd (i := 10) rfl (by kernel_rfl) rfl rfl (det_assign rfl) ?_
              refine JA_pd (i := 11) rfl (by kernel_rfl) rfl rfl (det_assign rfl) ?_
              refine JA_pd (i := 12) rfl (by kernel_rfl) rfl rfl (det_assign rfl) ?_
              refine JA_done (by kernel_rfl) ?_
              refine JE_seq ?_
              refine JC_seq ?_
              refine JC_draw [] (by kernel_rfl) ?_
              refine JA_pd (i := 0) rfl (by kernel_rfl) rfl rfl (det_move rfl) ?_
              refine JA_dt (i := 2) rfl (by kernel_rfl) (by kernel_rfl) rfl rfl (det_loadKA rfl Try.isAgg52 Try.sizeOf52 rfl rfl) ?_
              refine JA_pd (i := 4) rfl (by kernel_rfl) rfl rfl (det_move rfl) ?_
              -- stop: op  1 t216 := (call (Call (value f33) (t215) (50)))   <0>   95
              refine JA_one (i := 1) (by kernel_rfl) rfl rfl (jo_call rfl rfl Try.call33 rfl (hoy)) (fun _ => ⟨hsub_drop 0 rfl, fun _ h => h.2⟩) fun y6 => ?_
              refine JA_one (i := 3) (by kernel_rfl) rfl rfl (jo_callv rfl rfl Try.call34 rfl (lAm_j _)) (fun _ => ⟨hsub_refl, fun _ h => h⟩) fun _ => ?_
              -- stop: op  5 t220 := (call (Call (value f32) (t216 t218 t219) (58 60 3)))   <1 3 4 3>   95
              refine JA_one (i := 5) (by kernel_rfl) rfl rfl (jo_call rfl rfl Try.call32 rfl (u6 y6.1 y6.2)) (fun _ => ⟨hsub_drop 0 rfl, fun _ h => h.2⟩) fun z6 => ?_
              refine JA_pd (i := 6) rfl (by kernel_rfl) rfl rfl (det_move rfl) ?_
              refine JA_pd (i := 7) rfl (by kernel_rfl) rfl rfl (det_extract rfl rfl) ?_
              refine JA_pd (i := 8) rfl (by kernel_rfl) rfl rfl (det_extract rfl rfl) ?_
              refine JA_pd (i := 9) rfl (by kernel_rfl) rfl rfl (det_extract rfl rfl) ?_
              refine JA_pd (i := 10) rfl (by kernel_rfl) rfl rfl (det_assign rfl) ?_
              refine JA_pd (i := 11) rfl (by kernel_rfl) rfl rfl (det_assign rfl) ?_
              refine JA_pd (i := 12) rfl (by kernel_rfl) rfl rfl (det_assign rfl) ?_
              refine JA_done (by kernel_rfl) ?_
              refine JE_seq ?_
              refine JC_seq ?_
              refine JC_region ?_
              refine JL_pd rfl (det_move rfl) ?_
              refine JL_pd rfl (det_neq rfl rfl) ?_
              refine JL_pd rfl (det_move rfl) ?_
              -- stop: guard 2
              rcases r3a with rfl | rfl
              · rcases r5a with rfl | rfl
                · obtain ⟨rfl, w6⟩ := r6 rfl rfl
                  refine JL_is (d0 := 226) false rfl (by rfl) (fun k1 => ?_)
                  refine JL_guard rfl rfl k1 ?_
                  refine JL_pd rfl (det_move rfl) ?_
                  refine JL_guard rfl rfl k1 ?_
                  refine JL_pd rfl (det_neq rfl rfl) ?_
                  refine JL_pd rfl (det_pick_f rfl k1 rfl) ?_
                  refine JL_pd rfl (det_move rfl) ?_
                  -- stop: guard 6
                  refine JL_is (d0 := 230) false rfl (by rfl) (fun k2 => ?_)
                  refine JL_guard rfl rfl k2 ?_
                  refine JL_pd rfl (det_move rfl) ?_
                  refine JL_guard rfl rfl k2 ?_
                  refine JL_pd rfl (det_eql rfl rfl) ?_
                  refine JL_guard rfl rfl k2 ?_
                  refine JL_pd rfl (det_move rfl) ?_
                  -- stop: guard 9
                  refine JL_is (d0 := 233) true rfl (by rfl) (fun k3 => ?_)
                  refine JL_guard rfl rfl k3 ?_
                  refine JL_pd rfl (det_move rfl) ?_
                  refine JL_guard rfl rfl k3 ?_
                  refine JL_pd rfl (det_move rfl) ?_
                  refine JL_guard rfl rfl k3 ?_
                  refine JL_pd rfl (det_move rfl) ?_
                  refine JL_guard rfl rfl k3 ?_
                  refine JL_pd rfl (det_add rfl rfl ⟨by omega, by omega⟩) ?_
                  refine JL_guard rfl rfl k3 ?_
                  refine JL_pd rfl (det_leq rfl rfl) ?_
                  refine JL_guard rfl rfl k2 ?_
                  refine JL_pd rfl (det_pick_t rfl k3 rfl) ?_
                  refine JL_pd rfl (det_pick_f rfl k2 rfl) ?_
                  refine JL_pd rfl (det_move rfl) ?_
                  -- stop: guard 17
                  refine JL_is (d0 := 241) true rfl (by exact decide_eq_true (by omega)) (fun k4 => ?_)
                  refine JL_guard rfl rfl k4 ?_
                  refine JL_step rfl rfl rfl (jo_callv rfl rfl Try.call16 rfl (awake_j)) fun _ => ?_
                  refine JL_pd rfl (det_pick_t rfl k4 rfl) ?_
                  refine JL_pd rfl (det_assign rfl) ?_
                  refine JL_nil ?_
                  refine JE_seq ?_
                  refine JC_ret ?_
                  -- stop: out
                  refine JE_out (.inl rfl) () (results1 Try.results5 (res_tmp rfl)) rfl (List.Perm.refl _) (fun _ _ => trivial)
                · skip
                  refine JL_is (d0 := 226) false rfl (by rfl) (fun k1 => ?_)
                  refine JL_guard rfl rfl k1 ?_
                  refine JL_pd rfl (det_move rfl) ?_
                  refine JL_guard rfl rfl k1 ?_
                  refine JL_pd rfl (det_neq rfl rfl) ?_
                  refine JL_pd rfl (det_pick_f rfl k1 rfl) ?_
                  refine JL_pd rfl (det_move rfl) ?_
                  -- stop: guard 6
                  refine JL_is (d0 := 230) true rfl (by rfl) (fun k2 => ?_)
                  refine JL_skip rfl rfl k2 rfl ?_
                  refine JL_skip rfl rfl k2 rfl ?_
                  refine JL_skip rfl rfl k2 rfl ?_
                  refine JL_skipU rfl rfl rfl ?_
                  refine JL_skipU rfl rfl rfl ?_
                  refine JL_skipU rfl rfl rfl ?_
                  refine JL_skipU rfl rfl rfl ?_
                  refine JL_skipU rfl rfl rfl ?_
                  refine JL_skip rfl rfl k2 rfl ?_
                  refine JL_pd rfl (det_pick_t rfl k2 rfl) ?_
                  refine JL_pd rfl (det_move rfl) ?_
                  refine JL_guard rfl rfl rfl ?_
                  refine JL_step rfl rfl rfl (jo_callv rfl rfl Try.call16 rfl (awake_j)) fun _ => ?_
                  refine JL_pd rfl (det_pick_t rfl rfl rfl) ?_
                  refine JL_pd rfl (det_assign rfl) ?_
                  refine JL_nil ?_
                  refine JE_seq ?_
                  refine JC_ret ?_
                  -- stop: out
                  refine JE_out (.inl rfl) () (results1 Try.results5 (res_tmp rfl)) rfl (List.Perm.refl _) (fun _ _ => trivial)
              · skip
                refine JL_is (d0 := 226) true rfl (by rfl) (fun k1 => ?_)
                refine JL_skip rfl rfl k1 rfl ?_
                refine JL_skip rfl rfl k1 rfl ?_
                refine JL_pd rfl (det_pick_t rfl k1 rfl) ?_
                refine JL_pd rfl (det_move rfl) ?_
                refine JL_skip rfl rfl rfl rfl ?_
                refine JL_skip rfl rfl rfl rfl ?_
                refine JL_skip rfl rfl rfl rfl ?_
                refine JL_skipU rfl rfl rfl ?_
                refine JL_skipU rfl rfl rfl ?_
                refine JL_skipU rfl rfl rfl ?_
                refine JL_skipU rfl rfl rfl ?_
                refine JL_skipU rfl rfl rfl ?_
                refine JL_skip rfl rfl rfl rfl ?_
                refine JL_pd rfl (det_pick_t rfl rfl rfl) ?_
                refine JL_pd rfl (det_move rfl) ?_
                refine JL_guard rfl rfl rfl ?_
                refine JL_step rfl rfl rfl (jo_callv rfl rfl Try.call16 rfl (awake_j)) fun _ => ?_
                refine JL_pd rfl (det_pick_t rfl rfl rfl) ?_
                refine JL_pd rfl (det_assign rfl) ?_
                refine JL_nil ?_
                refine JE_seq ?_
                refine JC_ret ?_
                -- stop: out
                refine JE_out (.inl rfl) () (results1 Try.results5 (res_tmp rfl)) rfl (List.Perm.refl _) (fun _ _ => trivial)
          · rw [Bool.not_eq_true] at hoa
            refine JL_is (d0 := 198) true rfl (by rw [hoa]; rfl) (fun g3 => ?_)
            refine JL_skip rfl rfl g3 rfl ?_
            refine JL_skip rfl rfl g3 rfl ?_
            refine JL_skip rfl rfl g3 rfl ?_
            refine JL_pd rfl (det_pick_t rfl g3 rfl) ?_
            refine JL_nil ?_
            refine JE_seq ?_
            refine JC_condT rfl rfl ?_
            refine JC_seq ?_
            refine JC_region ?_
            refine JL_step rfl rfl rfl (jo_callv rfl rfl Try.call16 rfl (awake_j)) fun _ => ?_
            refine JL_pd rfl (det_assign rfl) ?_
            refine JL_nil ?_
            refine JE_seq ?_
            refine JC_ret ?_
            refine JE_seq_ret ?_
            -- stop: out
            refine JE_out (.inl rfl) () (results1 Try.results5 (res_tmp rfl)) rfl (List.Perm.refl _) (fun _ _ => trivial)
theorem BillMore_i (a : Option Addr) (c : Nat) (ls : List Of) (need other : Am) (at_ : Int) (wi : Int) (o : Of) (hw : 0 ≤ wi ∧ wi ≤ 255) : Cv Try.prog 5 [.slice a ls.length c, .agg #[I need.g, I need.q, I need.s], .agg #[I other.g, I other.q, I other.s], I at_, .int .u8 wi, .agg #[I o.price, I o.am.g, I o.am.q, I o.am.s, I o.lo, I o.hi, I o.most]] (KSl a ls.length c encO ls) (.bool true) := by
  obtain ⟨x, rfl⟩ : ∃ n : Nat, wi = n := ⟨wi.toNat, by omega⟩
  exact BillMore_j a c ls need other at_ x o (by omega)
end Go.Proofs.Ytjbmkdbgobmclaa

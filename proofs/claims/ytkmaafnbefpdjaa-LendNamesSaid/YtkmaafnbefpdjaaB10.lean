/- Own texts, laid together: E31 E32 E33 E34 E35. Nothing is asked. -/
import Derived.Test.YtkmaafnbefpdjaaB9
set_option linter.unusedSimpArgs false
set_option linter.unusedVariables false
/- Walks of the reference of lend: what sizes lack. -/
namespace Go.Proofs.Ytkmaafnbefpdjaa
open Go.RowKit Go.Shelf

set_option maxRecDepth 100000 in
theorem Has_j (a : Option Addr) (cap : Nat) (xs : List Int) (v : Int) : Cv Try.prog 85 [.slice a xs.length cap, I v] (KSl a xs.length cap encI xs) (.bool (decide (v ∈ xs))) := by
  refine Cx_of Try.func85 rfl Try.ntmps85 rfl fun w0 M0 => ?_
  refine JC_seq ?_
  refine JC_region ?_
  refine JL_pd rfl (det_assign rfl) ?_
  refine JL_nil ?_
  refine JE_seq ?_
  refine JC_seq ?_
  refine JC_seq ?_
  refine JC_region ?_
  refine JL_pd rfl (det_assign rfl) ?_
  refine JL_nil ?_
  refine JE_seq ?_
  refine JC_block ?_
  -- stop: loop
  refine JC_pure (p := xs.length ≤ 9223372036854775807) (by intro w h; exact h.1.bd) fun hz => ?_
  refine JC_loopF (γ := Nat) (fun i => i ≤ xs.length ∧ v ∉ xs.take i) (fun i => [(5, I i)]) (fun _ => []) (fun i => xs.length - i) 0 ⟨Nat.zero_le _, by simp⟩ (stsub_consI rfl rfl stsub_nil) ht_nil ?_
  rintro i ⟨hi, hno⟩ K hK
  dsimp only [List.cons_append, List.nil_append]
  refine JC_seq ?_
  refine JC_seq ?_
  refine JC_region ?_
  refine JL_pd rfl (det_move rfl) ?_
  refine JL_pd rfl (det_move rfl) ?_
  refine JL_pd rfl (det_len rfl Try.runUnderlying22) ?_
  refine JL_pd rfl (det_lss rfl rfl) ?_
  refine JL_nil ?_
  refine JE_seq ?_
  -- stop: cond
  refine JC_if rfl (fun h1 => ?_) (fun h1 => ?_)
  · have hi2 : i < xs.length := by omega
    refine JC_skip ?_
    refine JE_seq ?_
    refine JC_seq ?_
    refine JC_block ?_
    refine JC_seq ?_
    refine JC_region ?_
    refine JL_pd rfl (det_move rfl) ?_
    refine JL_pd rfl (det_move rfl) ?_
    refine JL_dt rfl (det_indexAddr rfl rfl (by first | rfl | omega) (by first | assumption | omega | decide) Try.runUnderlying22 Try.sizeOf3) ?_
    refine JL_dt rfl (det_loadE rfl (by first | assumption | omega | decide) Try.isAgg3 rfl rfl) ?_
    refine JL_pd rfl (det_move rfl) ?_
    refine JL_pd rfl (det_eql rfl rfl) ?_
    refine JL_nil ?_
    refine JE_seq ?_
    -- stop: cond
    refine JC_if rfl (fun h2 => ?_) (fun h2 => ?_)
    · refine JC_seq ?_
      refine JC_region ?_
      refine JL_pd rfl (det_assign rfl) ?_
      refine JL_nil ?_
      refine JE_seq ?_
      refine JC_ret ?_
      refine JE_block_ret ?_
      refine JE_seq_ret ?_
      refine JE_then_ret ?_
      refine JE_block_ret ?_
      refine JE_seq_ret ?_
      -- stop: out
      refine JE_out (.inl rfl) () (results1 Try.results85 (res_tmp rfl)) (by rw [decide_eq_true (show v ∈ xs from h2 ▸ List.getElem_mem hi2)]) (List.Perm.refl _) (fun _ _ => trivial)
    · refine JC_skip ?_
      refine JE_block ?_
      refine JE_seq ?_
      refine JC_region ?_
      refine JL_pd rfl (det_move rfl) ?_
      refine JL_pd rfl (det_add rfl rfl ⟨by omega, by omega⟩) ?_
      refine JL_pd rfl (det_assign rfl) ?_
      refine JL_nil ?_
      -- stop: end
      refine JE_roundF hK (i + 1) ⟨by omega, by rw [take_snoc hi2]; intro hm; rcases List.mem_append.1 hm with hm | hm; exact hno hm; exact h2 (List.mem_singleton.1 hm).symm⟩ (by omega) (stsub_consI rfl (by omega) stsub_nil) ht_nil
  · refine JC_exit ?_
    refine JE_seq_exit ?_
    refine JE_then_exit ?_
    refine JE_block_here ?_
    refine JE_seq ?_
    refine JC_seq ?_
    refine JC_region ?_
    refine JL_pd rfl (det_assign rfl) ?_
    refine JL_nil ?_
    refine JE_seq ?_
    refine JC_ret ?_
    -- stop: out
    obtain rfl : i = xs.length := by omega
    rw [List.take_length] at hno
    refine JE_out (.inl rfl) () (results1 Try.results85 (res_tmp rfl)) (by rw [decide_eq_false hno]) (List.Perm.refl _) (fun _ _ => trivial)
set_option maxRecDepth 100000 in
theorem rLack_j (x : Hx) (a : Option Addr) (cap : Nat) (feet : List Int) (sa : Option Addr) (sc : Nat) (S : List Int) (hV : VHs x.h) (hf : feet.length ≤ 1000) : Cv Try.prog 50 [.agg #[I x.h.lanes, .slice x.a x.h.shoes.length x.c], .slice a feet.length cap, .slice sa S.length sc] (KAnd (KHx x) (KAnd (KSl a feet.length cap encI feet) (KSl sa S.length sc encI S))) (I (lack x.h.shoes feet S)) := by
  have hn := hV.n
  refine Cx_of Try.func50 rfl Try.ntmps50 rfl fun w0 M0 => ?_
  refine JC_seq ?_
  refine JC_region ?_
  refine JL_step rfl rfl rfl (jo_box rfl rfl) fun b3 => ?_
  refine JL_pd rfl (det_assign rfl) ?_
  refine JL_nil ?_
  refine JE_seq ?_
  refine JC_seq ?_
  refine JC_region ?_
  refine JL_pd rfl (det_assign rfl) ?_
  refine JL_nil ?_
  refine JE_seq ?_
  refine JC_seq ?_
  refine JC_seq ?_
  refine JC_region ?_
  refine JL_pd rfl (det_assign rfl) ?_
  refine JL_nil ?_
  refine JE_seq ?_
  refine JC_block ?_
  -- stop: loop
  refine JC_loopF (γ := Nat) (fun i => i ≤ feet.length) (fun i => [(8, I i), (7, I (((feet.take i).countP fun f => decide (f ∈ S) : Nat) : Int))]) (fun _ => []) (fun i => feet.length - i) 0 (Nat.zero_le _) (stsub_consI rfl rfl (stsub_consI rfl rfl stsub_nil)) ht_nil ?_
  intro i hi K hK
  dsimp only [List.cons_append, List.nil_append]
  have hcl : (feet.take i).countP (fun f => decide (f ∈ S)) ≤ feet.length := Nat.le_trans List.countP_le_length (by rw [List.length_take]; omega)
  refine JC_seq ?_
  refine JC_seq ?_
  refine JC_region ?_
  refine JL_pd rfl (det_move rfl) ?_
  refine JL_pd rfl (det_move rfl) ?_
  refine JL_pd rfl (det_len rfl Try.runUnderlying22) ?_
  refine JL_pd rfl (det_lss rfl rfl) ?_
  refine JL_nil ?_
  refine JE_seq ?_
  -- stop: cond
  refine JC_if rfl (fun h1 => ?_) (fun h1 => ?_)
  · have hi2 : i < feet.length := by omega
    have hs := countP_snoc (fun f : Int => decide (f ∈ S)) feet i hi2
    refine JC_skip ?_
    refine JE_seq ?_
    refine JC_seq ?_
    refine JC_block ?_
    refine JC_seq ?_
    refine JC_region ?_
    refine JL_pd rfl (det_move rfl) ?_
    refine JL_pd rfl (det_move rfl) ?_
    refine JL_pd rfl (det_move rfl) ?_
    refine JL_dt rfl (det_indexAddr rfl rfl (by first | rfl | omega) (by first | assumption | omega | decide) Try.runUnderlying22 Try.sizeOf3) ?_
    refine JL_dt rfl (det_loadE rfl (by first | assumption | omega | decide) Try.isAgg3 rfl rfl) ?_
    refine JL_step rfl rfl rfl (jo_callv rfl rfl Try.call85 rfl (Has_j sa sc S _)) fun _ => ?_
    refine JL_nil ?_
    refine JE_seq ?_
    -- stop: cond
    refine JC_cond rfl (fun h2 => ?_) (fun h2 => ?_)
    · refine JC_region ?_
      refine JL_pd rfl (det_move rfl) ?_
      refine JL_pd rfl (det_add rfl rfl ⟨by omega, by omega⟩) ?_
      refine JL_pd rfl (det_assign rfl) ?_
      refine JL_nil ?_
      refine JE_block ?_
      refine JE_seq ?_
      refine JC_region ?_
      refine JL_pd rfl (det_move rfl) ?_
      refine JL_pd rfl (det_add rfl rfl ⟨by omega, by omega⟩) ?_
      refine JL_pd rfl (det_assign rfl) ?_
      refine JL_nil ?_
      -- stop: end
      rw [if_pos h2] at hs
      refine JE_roundF hK (i + 1) (by omega) (by omega) (stsub_consI rfl (by omega) (stsub_consI rfl (by omega) stsub_nil)) ht_nil
    · refine JC_skip ?_
      refine JE_block ?_
      refine JE_seq ?_
      refine JC_region ?_
      refine JL_pd rfl (det_move rfl) ?_
      refine JL_pd rfl (det_add rfl rfl ⟨by omega, by omega⟩) ?_
      refine JL_pd rfl (det_assign rfl) ?_
      refine JL_nil ?_
      -- stop: end
      rw [if_neg (by rw [h2]; decide)] at hs
      refine JE_roundF hK (i + 1) (by omega) (by omega) (stsub_consI rfl (by omega) (stsub_consI rfl (by omega) stsub_nil)) ht_nil
  · obtain rfl : i = feet.length := by omega
    rw [List.take_length] at hcl ⊢
    generalize hC : (feet.countP fun f => decide (f ∈ S)) = C
    rw [hC] at hcl
    refine JC_exit ?_
    refine JE_seq_exit ?_
    refine JE_then_exit ?_
    refine JE_block_here ?_
    refine JE_seq ?_
    refine JC_seq ?_
    refine JC_seq ?_
    refine JC_region ?_
    refine JL_pd rfl (det_assign rfl) ?_
    refine JL_nil ?_
    refine JE_seq ?_
    refine JC_block ?_
    -- stop: loop
    refine JC_loopF (γ := Nat) (fun i => i ≤ 10 ∧ 0 ≤ sumC (nbr S) (shoe x.h.shoes) i ∧ sumC (nbr S) (shoe x.h.shoes) i ≤ 20 * i) (fun i => [(9, I i), (7, I ((C : Int) - sumC (nbr S) (shoe x.h.shoes) i))]) (fun _ => []) (fun i => 10 - i) 0 ⟨by omega, Int.le_refl _, Int.le_refl _⟩ (stsub_consI rfl rfl (stsub_consI rfl (by simp [sumC]) stsub_nil)) ht_nil ?_
    rintro i ⟨hi, hs0, hs1⟩ K' hK'
    dsimp only [List.cons_append, List.nil_append]
    refine JC_seq ?_
    refine JC_seq ?_
    refine JC_region ?_
    refine JL_pd rfl (det_move rfl) ?_
    refine JL_pd rfl (det_lss rfl rfl) ?_
    refine JL_nil ?_
    refine JE_seq ?_
    -- stop: cond
    refine JC_if rfl (fun h2 => ?_) (fun h2 => ?_)
    · have hi2 : i < x.h.shoes.length := by omega
      have hsx := hV.s _ (List.getElem_mem hi2)
      have hsh := shoe_get hi2
      have hsum : sumC (nbr S) (shoe x.h.shoes) (i + 1) = sumC (nbr S) (shoe x.h.shoes) i + if nbr S i = true then shoe x.h.shoes i else 0 := rfl
      have hnb : (decide ((i : Int) ∈ S) || decide ((i : Int) - 1 ∈ S)) = nbr S i := by unfold nbr; simp
      refine JC_skip ?_
      refine JE_seq ?_
      refine JC_seq ?_
      refine JC_block ?_
      refine JC_seq ?_
      refine JC_region ?_
      refine JL_pd rfl (det_move rfl) ?_
      refine JL_pd rfl (det_move rfl) ?_
      refine JL_step rfl rfl rfl (jo_callv rfl rfl Try.call85 rfl (Has_j sa sc S _)) fun _ => ?_
      refine JL_pd rfl (det_move rfl) ?_
      -- stop: guard 3
      refine JL_join1 5 36 (.bool (nbr S i)) (fun hj => ?_) ?_
      · refine JL_split (d0 := 31) rfl (fun q1 => ?_) (fun q1 => ?_)
        · refine JL_skip rfl rfl q1 rfl ?_
          refine JL_skip rfl rfl q1 rfl ?_
          refine JL_skip rfl rfl q1 rfl ?_
          refine JL_skip rfl rfl q1 rfl ?_
          refine JL_pd rfl (det_pick_t rfl q1 rfl) ?_
          exact hj (by kernel_rfl) (stsub_consB rfl (by clear hj; first | rfl | (simp only [nbr, q1, Bool.and_true, Bool.true_and, Bool.false_and, Bool.and_false, Bool.or_true, Bool.true_or, Bool.or_false, Bool.false_or, Bool.not_true, Bool.not_false]; done) | (simp [nbr, q1]; done) | (simp [nbr] at q1; done) | (simp [nbr, q1] <;> omega) | (exfalso; simp [nbr] at q1; omega)) stsub_nil)
        · refine JL_guard rfl rfl q1 ?_
          refine JL_pd rfl (det_move rfl) ?_
          refine JL_guard rfl rfl q1 ?_
          refine JL_pd rfl (det_move rfl) ?_
          refine JL_guard rfl rfl q1 ?_
          refine JL_pd rfl (det_sub rfl rfl ⟨by omega, by omega⟩) ?_
          refine JL_guard rfl rfl q1 ?_
          refine JL_step rfl rfl rfl (jo_callv rfl rfl Try.call85 rfl (Has_j sa sc S _)) fun _ => ?_
          refine JL_pd rfl (det_pick_f rfl q1 rfl) ?_
          exact hj (by kernel_rfl) (stsub_consB rfl (by clear hj; first | rfl | (simp only [nbr, q1, Bool.and_true, Bool.true_and, Bool.false_and, Bool.and_false, Bool.or_true, Bool.true_or, Bool.or_false, Bool.false_or, Bool.not_true, Bool.not_false]; done) | (simp [nbr, q1]; done) | (simp [nbr] at q1; done) | (simp [nbr, q1] <;> omega) | (exfalso; simp [nbr] at q1; omega)) stsub_nil)
      refine JL_nil ?_
      refine JE_seq ?_
      -- stop: cond
      refine JC_cond rfl (fun h3 => ?_) (fun h3 => ?_)
      · refine JC_region ?_
        refine JL_pd rfl (det_move rfl) ?_
        refine JL_pd rfl (det_fieldAddr rfl fo_24_1) ?_
        refine JL_dt rfl (det_loadK rfl Try.isAgg22 rfl) ?_
        refine JL_pd rfl (det_move rfl) ?_
        refine JL_dt rfl (det_indexAddr rfl rfl (by first | rfl | omega) (by first | assumption | omega | decide) Try.runUnderlying22 Try.sizeOf3) ?_
        refine JL_dt rfl (det_loadE rfl (by first | assumption | omega | decide) Try.isAgg3 rfl rfl) ?_
        refine JL_pd rfl (det_sub rfl rfl ⟨by omega, by omega⟩) ?_
        refine JL_pd rfl (det_assign rfl) ?_
        refine JL_nil ?_
        refine JE_block ?_
        refine JE_seq ?_
        refine JC_region ?_
        refine JL_pd rfl (det_move rfl) ?_
        refine JL_pd rfl (det_add rfl rfl ⟨by omega, by omega⟩) ?_
        refine JL_pd rfl (det_assign rfl) ?_
        refine JL_nil ?_
        -- stop: end
        rw [if_pos h3, hsh] at hsum
        refine JE_roundF hK' (i + 1) ⟨by omega, by omega, by omega⟩ (by omega) (stsub_consI rfl (by omega) (stsub_consI rfl (by omega) stsub_nil)) ht_nil
      · refine JC_skip ?_
        refine JE_block ?_
        refine JE_seq ?_
        refine JC_region ?_
        refine JL_pd rfl (det_move rfl) ?_
        refine JL_pd rfl (det_add rfl rfl ⟨by omega, by omega⟩) ?_
        refine JL_pd rfl (det_assign rfl) ?_
        refine JL_nil ?_
        -- stop: end
        rw [if_neg (by rw [h3]; decide)] at hsum
        refine JE_roundF hK' (i + 1) ⟨by omega, by omega, by omega⟩ (by omega) (stsub_consI rfl (by omega) (stsub_consI rfl (by omega) stsub_nil)) ht_nil
    · obtain rfl : i = 10 := by omega
      refine JC_exit ?_
      refine JE_seq_exit ?_
      refine JE_then_exit ?_
      refine JE_block_here ?_
      refine JE_seq ?_
      refine JC_seq ?_
      refine JC_region ?_
      refine JL_pd rfl (det_move rfl) ?_
      refine JL_pd rfl (det_max rfl rfl) ?_
      refine JL_pd rfl (det_assign rfl) ?_
      refine JL_nil ?_
      refine JE_seq ?_
      refine JC_ret ?_
      -- stop: out
      refine JE_out (.inl rfl) () (results1 Try.results50 (res_tmp rfl)) (by unfold lack lackI; rw [hC]) (List.Perm.refl _) (fun _ _ => trivial)
end Go.Proofs.Ytkmaafnbefpdjaa

/- Walks of the reference of lend: the greatest number that any sizes lack; the feet that are there. -/
namespace Go.Proofs.Ytkmaafnbefpdjaa
open Go.RowKit Go.Shelf

theorem bit_shr (s i : Nat) (hi : i < 64) : ((((s : Int).fdiv (2 ^ min ((i : Int)).toNat (IntKind.bits .i64))).tmod 2) = 1) ↔ s.testBit i = true := by
  rw [Int.toNat_natCast, show IntKind.bits .i64 = 64 from rfl, show min i 64 = i by omega]
  have e : ((s : Int).fdiv (2 ^ i)) = ((s / 2 ^ i : Nat) : Int) := by
    rw [Int.fdiv_eq_ediv_of_nonneg _ (Int.pow_nonneg (by decide))]
    rw [Int.natCast_ediv, Int.natCast_pow]; rfl
  rw [e, Nat.testBit_eq_decide_div_mod_eq, decide_eq_true_eq]
  generalize s / 2 ^ i = N
  rw [Int.tmod_eq_emod_of_nonneg (by omega)]
  omega
/-- The first sizes of some bits. -/
def szB (bits n : Nat) : List Int := ((List.range n).filter fun s => bits.testBit s).map fun s : Nat => (s : Int)
theorem szB_in {bits n : Nat} (h : bits.testBit n = true) : szB bits (n + 1) = szB bits n ++ [(n : Int)] := by
  unfold szB
  rw [List.range_succ, List.filter_append, List.filter_cons_of_pos h]; simp
theorem szB_no {bits n : Nat} (h : bits.testBit n = false) : szB bits (n + 1) = szB bits n := by
  unfold szB
  rw [List.range_succ, List.filter_append, List.filter_cons_of_neg (by rw [h]; decide)]; simp
theorem szB_len (bits n : Nat) : (szB bits n).length ≤ n := by
  unfold szB
  rw [List.length_map]
  exact Nat.le_trans (List.length_filter_le _ _) (by simp)
theorem lack_bd {h : Hs} (hV : VHs h) (feet S : List Int) : 0 ≤ lack h.shoes feet S ∧ lack h.shoes feet S ≤ (feet.length : Int) := by
  have h1 : feet.countP (fun f => decide (f ∈ S)) ≤ feet.length := List.countP_le_length
  have h2 : ∀ n : Nat, n ≤ 10 → 0 ≤ sumC (nbr S) (shoe h.shoes) n := by
    intro n
    induction n with
    | zero => intro _; exact Int.le_refl _
    | succ n ih =>
      intro hn
      have := ih (by omega)
      have hs := hV.s (h.shoes[n]'(by have := hV.n; omega)) (List.getElem_mem _)
      rw [← shoe_get] at hs
      show 0 ≤ sumC (nbr S) (shoe h.shoes) n + _
      split <;> omega
  have := h2 10 (by omega)
  unfold lack lackI
  omega
set_option maxRecDepth 100000 in
set_option maxHeartbeats 1000000 in
theorem Lacks_j (x : Hx) (a : Option Addr) (cap : Nat) (feet : List Int) (hV : VHs x.h) (hf : feet.length ≤ 1000) : Cv Try.prog 39 [.agg #[I x.h.lanes, .slice x.a x.h.shoes.length x.c], .slice a feet.length cap] (KAnd (KHx x) (KSl a feet.length cap encI feet)) (I (lacksV x.h.shoes feet 1024)) := by
  refine Cx_of Try.func39 rfl Try.ntmps39 rfl fun w0 M0 => ?_
  refine JC_seq ?_
  refine JC_region ?_
  refine JL_step rfl rfl rfl (jo_box rfl rfl) fun b2 => ?_
  refine JL_pd rfl (det_assign rfl) ?_
  refine JL_nil ?_
  refine JE_seq ?_
  refine JC_seq ?_
  refine JC_region ?_
  refine JL_pd rfl (det_assign rfl) ?_
  refine JL_nil ?_
  refine JE_seq ?_
  refine JC_seq ?_
  refine JC_seq ?_
  refine JC_region ?_
  refine JL_pd rfl (det_assign rfl) ?_
  refine JL_nil ?_
  refine JE_seq ?_
  refine JC_block ?_
  -- stop: loop
  refine JC_keep b2 noFp ?_
  refine JC_loopF (γ := Nat) (fun i => i ≤ 1024) (fun i => [(6, I i), (5, I (lacksV x.h.shoes feet i))]) (fun _ => []) (fun i => 1024 - i) 0 (by omega) (stsub_consI rfl rfl (stsub_consI rfl rfl stsub_nil)) ht_nil ?_
  intro i hi K hK
  dsimp only [List.cons_append, List.nil_append]
  have hsn : lacksV x.h.shoes feet (i + 1) = max (lacksV x.h.shoes feet i) (lack x.h.shoes feet (szB i 10)) := rfl
  generalize hL : lacksV x.h.shoes feet i = L at hsn
  refine JC_seq ?_
  refine JC_seq ?_
  refine JC_region ?_
  refine JL_pd rfl (det_move rfl) ?_
  refine JL_pd rfl (det_lss rfl rfl) ?_
  refine JL_nil ?_
  refine JE_seq ?_
  -- stop: cond
  refine JC_if rfl (fun h1 => ?_) (fun h1 => ?_)
  · have hi2 : i < 1024 := by omega
    refine JC_skip ?_
    refine JE_seq ?_
    refine JC_seq ?_
    refine JC_block ?_
    refine JC_seq ?_
    refine JC_region ?_
    refine JL_pd rfl (det_assign rfl) ?_
    refine JL_nil ?_
    refine JE_seq ?_
    refine JC_seq ?_
    refine JC_seq ?_
    refine JC_region ?_
    refine JL_pd rfl (det_assign rfl) ?_
    refine JL_nil ?_
    refine JE_seq ?_
    refine JC_block ?_
    -- stop: loop
    refine JC_nil 3 1 ?_
    refine JC_loopF (γ := Nat × Value) (fun q => q.1 ≤ 10) (fun q => [(8, I q.1), (7, q.2)]) (fun q => [ow q.2 3 1 (szB i q.1).length ((szB i q.1).flatMap encI)]) (fun q => 10 - q.1) (0, .slice none 0 0) (by simp) (stsub_consI rfl rfl (stsub_cons rfl stsub_nil)) (ht_ow rfl rfl ht_nil) ?_
    rintro ⟨s, v⟩ hs K2 hK2
    dsimp only [List.cons_append, List.nil_append] at hs ⊢
    have hlen := szB_len i s
    refine JC_seq ?_
    refine JC_seq ?_
    refine JC_region ?_
    refine JL_pd rfl (det_move rfl) ?_
    refine JL_pd rfl (det_lss rfl rfl) ?_
    refine JL_nil ?_
    refine JE_seq ?_
    -- stop: cond
    refine JC_if rfl (fun h2 => ?_) (fun h2 => ?_)
    · have hs2 : s < 10 := by omega
      have hbit := bit_shr i s (by omega)
      refine JC_skip ?_
      refine JE_seq ?_
      refine JC_seq ?_
      refine JC_block ?_
      refine JC_seq ?_
      refine JC_region ?_
      refine JL_pd rfl (det_move rfl) ?_
      refine JL_pd rfl (det_move rfl) ?_
      refine JL_pd rfl (det_convI rfl Try.runUnderlying3 Try.runUnderlying100 (u64_wrap ⟨by omega, by omega⟩)) ?_
      refine JL_pd rfl (det_shr rfl rfl (by omega)) ?_
      refine JL_pd rfl (det_rem rfl rfl (by omega)) ?_
      refine JL_pd rfl (det_eql rfl rfl) ?_
      refine JL_nil ?_
      refine JE_seq ?_
      -- stop: cond
      refine JC_if rfl (fun h3 => ?_) (fun h3 => ?_)
      · have hb := szB_in (hbit.1 h3)
        refine JC_region ?_
        refine JL_pd rfl (det_move rfl) ?_
        refine JL_pd rfl (det_move rfl) ?_
        refine JL_step rfl rfl rfl (jo_buildSlice rfl (bsl_22_1_0 _)) fun b25 => ?_
        refine JL_step rfl rfl rfl (jo_append el_22 rfl rfl rfl rfl (by omega)) fun b26 => ?_
        refine JL_pd rfl (det_assign rfl) ?_
        refine JL_nil ?_
        refine JE_block ?_
        refine JE_seq ?_
        refine JC_region ?_
        refine JL_pd rfl (det_move rfl) ?_
        refine JL_pd rfl (det_add rfl rfl ⟨by omega, by omega⟩) ?_
        refine JL_pd rfl (det_assign rfl) ?_
        refine JL_nil ?_
        -- stop: end
        exact JE_roundF hK2 (s + 1, .slice (some ⟨b26.1, 0, none⟩) ((szB i s).length + 1) b26.2) (by simp only; omega) (by simp only; omega) (stsub_consI rfl (by simp only; omega) (stsub_cons rfl stsub_nil)) (ht_ow (by rw [hb, List.length_append]; rfl) (by rw [hb, List.flatMap_append]; rfl) ht_nil)
      · have hb := szB_no (bits := i) (n := s) (by simpa using mt hbit.2 h3)
        refine JC_skip ?_
        refine JE_block ?_
        refine JE_seq ?_
        refine JC_region ?_
        refine JL_pd rfl (det_move rfl) ?_
        refine JL_pd rfl (det_add rfl rfl ⟨by omega, by omega⟩) ?_
        refine JL_pd rfl (det_assign rfl) ?_
        refine JL_nil ?_
        -- stop: end
        exact JE_roundF hK2 (s + 1, v) (by simp only; omega) (by simp only; omega) (stsub_consI rfl (by simp only; omega) (stsub_cons rfl stsub_nil)) (ht_ow (by rw [hb]) (by rw [hb]) ht_nil)
    · obtain rfl : s = 10 := by omega
      refine JC_slice (enc := encI) (v := v) (szB i 10) noFp rfl rfl ?_
      rintro av cv rfl
      have hbd := lack_bd hV feet (szB i 10)
      refine JC_exit ?_
      refine JE_seq_exit ?_
      refine JE_then_exit ?_
      refine JE_block_here ?_
      refine JE_seq ?_
      refine JC_region ?_
      refine JL_pd rfl (det_move rfl) ?_
      refine JL_dt rfl (det_loadKA rfl Try.isAgg24 Try.sizeOf24 rfl rfl) ?_
      refine JL_pd rfl (det_move rfl) ?_
      refine JL_pd rfl (det_move rfl) ?_
      refine JL_step rfl rfl rfl (jo_callv rfl rfl Try.call50 rfl (rLack_j x a cap feet av cv (szB i 10) hV hf)) fun _ => ?_
      refine JL_pd rfl (det_max rfl rfl) ?_
      refine JL_pd rfl (det_assign rfl) ?_
      refine JL_nil ?_
      refine JE_block ?_
      refine JE_seq ?_
      refine JC_region ?_
      refine JL_pd rfl (det_move rfl) ?_
      refine JL_pd rfl (det_add rfl rfl ⟨by omega, by omega⟩) ?_
      refine JL_pd rfl (det_assign rfl) ?_
      refine JL_nil ?_
      -- stop: end
      exact JE_roundF hK (i + 1) (by omega) (by omega) (stsub_consI rfl (by omega) (stsub_consI rfl (by rw [hsn]) stsub_nil)) ht_nil
  · obtain rfl : i = 1024 := by omega
    refine JC_exit ?_
    refine JE_seq_exit ?_
    refine JE_then_exit ?_
    refine JE_block_here ?_
    refine JE_seq ?_
    refine JC_seq ?_
    refine JC_region ?_
    refine JL_pd rfl (det_move rfl) ?_
    refine JL_pd rfl (det_assign rfl) ?_
    refine JL_nil ?_
    refine JE_seq ?_
    refine JC_ret ?_
    -- stop: out
    refine JE_out (.inl rfl) () (results1 Try.results39 (res_tmp rfl)) (by rw [hL]) (List.Perm.refl _) (fun _ _ => trivial)
set_option maxRecDepth 100000 in
set_option maxHeartbeats 1000000 in
theorem At_j (ga : Option Addr) (gc : Nat) (xs : List Gx) (a : Option Addr) (cap : Nat) (plan : List Int) (t : Int) (hl : xs.length ≤ 1000) (hpl : plan.length = xs.length) (hf : ∀ z ∈ (gs xs).zip plan, z.1.feet.length ≤ 100) : Cr Try.prog 40 [.slice ga xs.length gc, .slice a plan.length cap, I t] (KAnd (KGs ga gc xs) (KSl a plan.length cap encI plan))
    (fun q : Option Addr × Nat => .slice q.1 (feetA ((gs xs).zip plan) t).length q.2) (fun q => KSl q.1 (feetA ((gs xs).zip plan) t).length q.2 encI (feetA ((gs xs).zip plan) t)) := by
  have hgl : (gs xs).length = xs.length := List.length_map _
  obtain ⟨zs, hzs⟩ : ∃ zs, (gs xs).zip plan = zs := ⟨_, rfl⟩
  rw [hzs] at hf ⊢
  have hzl : zs.length = xs.length := by rw [← hzs, List.length_zip, hgl]; omega
  have hzi : ∀ i (h : i < xs.length), zs[i]'(by omega) = (xs[i].g, plan[i]'(by omega)) := fun i h => by
    subst hzs; simp [gs]
  refine Cx_of Try.func40 rfl Try.ntmps40 rfl fun w0 M0 => ?_
  refine JC_seq ?_
  refine JC_region ?_
  refine JL_pd rfl (det_assign rfl) ?_
  refine JL_nil ?_
  refine JE_seq ?_
  refine JC_seq ?_
  refine JC_region ?_
  refine JL_pd rfl (det_assign rfl) ?_
  refine JL_nil ?_
  refine JE_seq ?_
  refine JC_seq ?_
  refine JC_seq ?_
  refine JC_region ?_
  refine JL_pd rfl (det_assign rfl) ?_
  refine JL_nil ?_
  refine JE_seq ?_
  refine JC_block ?_
  -- stop: loop
  refine JC_nil 3 1 ?_
  refine JC_loopF (γ := Nat × Value) (fun q => q.1 ≤ xs.length) (fun q => [(8, I q.1), (7, q.2)]) (fun q => [ow q.2 3 1 (feetA (zs.take q.1) t).length ((feetA (zs.take q.1) t).flatMap encI)]) (fun q => xs.length - q.1) (0, .slice none 0 0) (by simp) (stsub_consI rfl rfl (stsub_cons rfl stsub_nil)) (ht_ow (by rw [List.take_zero]; rfl) (by rw [List.take_zero]; rfl) ht_nil) ?_
  rintro ⟨i, u⟩ hi K2 hK2
  dsimp only [List.cons_append, List.nil_append] at hi ⊢
  refine JC_seq ?_
  refine JC_seq ?_
  refine JC_region ?_
  refine JL_pd rfl (det_move rfl) ?_
  refine JL_pd rfl (det_move rfl) ?_
  refine JL_pd rfl (det_len rfl Try.runUnderlying25) ?_
  refine JL_pd rfl (det_lss rfl rfl) ?_
  refine JL_nil ?_
  refine JE_seq ?_
  -- stop: cond
  refine JC_if rfl (fun h3 => ?_) (fun h3 => ?_)
  · have hi2 : i < xs.length := by omega
    have hfe : ∀ z ∈ zs.take i, z.1.feet.length ≤ 100 := fun z hz => hf z (List.mem_of_mem_take hz)
    have hfl := feetA_len t 100 (zs.take i) hfe
    rw [List.length_take] at hfl
    have hf6 := hf _ (List.getElem_mem (show i < zs.length by omega))
    rw [hzi i hi2] at hf6
    dsimp only at hf6
    have hsn := feetA_snoc zs t i (by omega)
    rw [hzi i hi2] at hsn
    have hsv : decide (0 ≤ plan[i]'(by omega)) = srv (xs[i].g, plan[i]'(by omega)) := rfl
    rw [← hsv] at hsn
    refine JC_know (R' := KAnd (KSl xs[i].a xs[i].g.feet.length xs[i].c encI xs[i].g.feet) _) (fun w h => ⟨(Knows.know (F := KFt xs) w h) _ (List.getElem_mem hi2), h⟩) ?_
    refine JC_skip ?_
    refine JE_seq ?_
    refine JC_seq ?_
    refine JC_block ?_
    refine JC_seq ?_
    refine JC_region ?_
    refine JL_pd rfl (det_move rfl) ?_
    refine JL_pd rfl (det_move rfl) ?_
    refine JL_dt rfl (det_indexAddr rfl rfl (by first | rfl | omega) (by first | assumption | omega | decide) Try.runUnderlying22 Try.sizeOf3) ?_
    refine JL_dt rfl (det_loadE rfl (by first | assumption | omega | decide) Try.isAgg3 rfl rfl) ?_
    refine JL_pd rfl (det_geq rfl rfl) ?_
    refine JL_pd rfl (det_move rfl) ?_
    -- stop: guard 5
    refine JL_join1 7 27 (.bool (decide (0 ≤ plan[i]'(by omega)) && stays xs[i].g t)) (fun hj => ?_) ?_
    · refine JL_split (d0 := 20) rfl (fun q1 => ?_) (fun q1 => ?_)
      · refine JL_guard rfl rfl q1 ?_
        refine JL_pd rfl (det_move rfl) ?_
        refine JL_guard rfl rfl q1 ?_
        refine JL_pd rfl (det_move rfl) ?_
        refine JL_guard rfl rfl q1 ?_
        refine JL_dt rfl (det_indexAddr rfl rfl (by first | rfl | omega) (by first | assumption | omega | decide) Try.runUnderlying25 Try.sizeOf55) ?_
        refine JL_guard rfl rfl q1 ?_
        refine JL_dt rfl (det_loadEA rfl (by first | assumption | omega | decide) Try.isAgg55 Try.sizeOf55 rfl rfl rfl) ?_
        refine JL_guard rfl rfl q1 ?_
        refine JL_pd rfl (det_move rfl) ?_
        refine JL_guard rfl rfl q1 ?_
        refine JL_step rfl rfl rfl (jo_callv rfl rfl Try.call68 rfl (Stays_j xs[i] t)) fun _ => ?_
        refine JL_pd rfl (det_pick_t rfl q1 rfl) ?_
        exact hj (by kernel_rfl) (stsub_consB rfl (by clear hj; first | rfl | (simp only [q1, Bool.and_true, Bool.true_and, Bool.false_and, Bool.and_false, Bool.or_true, Bool.true_or, Bool.or_false, Bool.false_or, Bool.not_true, Bool.not_false]; done) | (simp [q1]; done) | (simp at q1; done) | (simp [q1] <;> omega) | (exfalso; simp at q1; omega)) stsub_nil)
      · refine JL_skip rfl rfl q1 rfl ?_
        refine JL_skip rfl rfl q1 rfl ?_
        refine JL_skip rfl rfl q1 rfl ?_
        refine JL_skip rfl rfl q1 rfl ?_
        refine JL_skip rfl rfl q1 rfl ?_
        refine JL_skip rfl rfl q1 rfl ?_
        refine JL_pd rfl (det_pick_f rfl q1 rfl) ?_
        exact hj (by kernel_rfl) (stsub_consB rfl (by clear hj; first | rfl | (simp only [q1, Bool.and_true, Bool.true_and, Bool.false_and, Bool.and_false, Bool.or_true, Bool.true_or, Bool.or_false, Bool.false_or, Bool.not_true, Bool.not_false]; done) | (simp [q1]; done) | (simp at q1; done) | (simp [q1] <;> omega) | (exfalso; simp at q1; omega)) stsub_nil)
    refine JL_nil ?_
    refine JE_seq ?_
    -- stop: cond
    refine JC_cond rfl (fun h4 => ?_) (fun h4 => ?_)
    · rw [if_pos h4] at hsn
      refine JC_region ?_
      refine JL_pd rfl (det_move rfl) ?_
      refine JL_pd rfl (det_move rfl) ?_
      refine JL_pd rfl (det_move rfl) ?_
      refine JL_dt rfl (det_indexAddr rfl rfl (by first | rfl | omega) (by first | assumption | omega | decide) Try.runUnderlying25 Try.sizeOf55) ?_
      refine JL_pd rfl (det_fieldAddrE rfl fo_55_2) ?_
      refine JL_dt rfl (det_loadEk rfl (by first | assumption | omega | decide) Try.isAgg22 rfl rfl) ?_
      refine JL_step rfl rfl rfl (jo_appendK (e := encI) el_22 rfl rfl encI_one (by omega)) fun b34 => ?_
      refine JL_pd rfl (det_assign rfl) ?_
      refine JL_nil ?_
      refine JE_block ?_
      refine JE_seq ?_
      refine JC_region ?_
      refine JL_pd rfl (det_move rfl) ?_
      refine JL_pd rfl (det_add rfl rfl ⟨by omega, by omega⟩) ?_
      refine JL_pd rfl (det_assign rfl) ?_
      refine JL_nil ?_
      -- stop: end
      exact JE_roundF hK2 (i + 1, b34) (by simp only; omega) (by simp only; omega) (stsub_consI rfl (by simp only; omega) (stsub_cons rfl stsub_nil)) (ht_ow (by rw [hsn, List.length_append]) (by rw [hsn, List.flatMap_append]) ht_nil)
    · rw [if_neg (by rw [h4]; decide), List.append_nil] at hsn
      refine JC_skip ?_
      refine JE_block ?_
      refine JE_seq ?_
      refine JC_region ?_
      refine JL_pd rfl (det_move rfl) ?_
      refine JL_pd rfl (det_add rfl rfl ⟨by omega, by omega⟩) ?_
      refine JL_pd rfl (det_assign rfl) ?_
      refine JL_nil ?_
      -- stop: end
      exact JE_roundF hK2 (i + 1, u) (by simp only; omega) (by simp only; omega) (stsub_consI rfl (by simp only; omega) (stsub_cons rfl stsub_nil)) (ht_ow (by rw [hsn]) (by rw [hsn]) ht_nil)
  · obtain rfl : i = xs.length := by omega
    rw [List.take_of_length_le (show zs.length ≤ xs.length by omega)]
    refine JC_slice (enc := encI) (v := u) (feetA zs t) noFp rfl rfl ?_
    rintro av cv rfl
    refine JC_exit ?_
    refine JE_seq_exit ?_
    refine JE_then_exit ?_
    refine JE_block_here ?_
    refine JE_seq ?_
    refine JC_seq ?_
    refine JC_region ?_
    refine JL_pd rfl (det_move rfl) ?_
    refine JL_pd rfl (det_assign rfl) ?_
    refine JL_nil ?_
    refine JE_seq ?_
    refine JC_ret ?_
    -- stop: out
    refine JE_out (.inl rfl) (av, cv) (results1 Try.results40 (res_tmp rfl)) rfl (List.Perm.refl _) (fun w h => h.1)
end Go.Proofs.Ytkmaafnbefpdjaa

/- Walks of the reference of lend: fittings. -/
namespace Go.Proofs.Ytkmaafnbefpdjaa
open Go.RowKit Go.Shelf

theorem Bare_j (a : Option Addr) (cap : Nat) (ws : List Int) (hl : ws.length ≤ 1000) : Cv Try.prog 51 [.slice a ws.length cap] (KSl a ws.length cap encI ws) (I (bareI ws)) := by
  have hs : served ws ≤ ws.length := List.countP_le_length
  refine Cx_of Try.func51 rfl Try.ntmps51 rfl fun w0 M0 => ?_
  refine JC_seq ?_
  refine JC_region ?_
  refine JL_pd rfl (det_assign rfl) ?_
  refine JL_nil ?_
  refine JE_seq ?_
  refine JC_seq ?_
  refine JC_region ?_
  refine JL_pd rfl (det_move rfl) ?_
  refine JL_pd rfl (det_len rfl Try.runUnderlying22) ?_
  refine JL_pd rfl (det_move rfl) ?_
  refine JL_step rfl rfl rfl (jo_callv rfl rfl Try.call26 rfl (Served_j a cap ws hl)) fun _ => ?_
  refine JL_pd rfl (det_sub rfl rfl ⟨by omega, by omega⟩) ?_
  refine JL_pd rfl (det_assign rfl) ?_
  refine JL_nil ?_
  refine JE_seq ?_
  refine JC_ret ?_
  -- stop: out
  refine JE_out (.inl rfl) () (results1 Try.results51 (res_tmp rfl)) rfl (List.Perm.refl _) (fun _ _ => trivial)
/-- How many wear each size. -/
def cntL (ws : List Int) : List Int := (List.range 10).map fun s : Nat => (cntW ws s : Int)
theorem cntL_get (ws : List Int) (s : Nat) (h : s < 10) : ((cntL ws).flatMap encI)[s]? = some (I (cntW ws s : Int)) := by
  rw [flatI_get (cntL ws) s (by simpa [cntL] using h)]
  simp [cntL]
theorem cntW_snoc (ws : List Int) (w s : Int) : cntW (ws ++ [w]) s = cntW ws s + if w = s then 1 else 0 := by
  unfold cntW
  rw [List.countP_append, List.countP_singleton]
  by_cases e : w = s <;> simp [e]
theorem cntL_snoc (ws : List Int) (w : Nat) (h : w < 10) : (cntL ws).set w ((cntW ws w : Int) + 1) = cntL (ws ++ [(w : Int)]) := by
  refine List.ext_getElem (by simp [cntL]) fun i h1 h2 => ?_
  rw [List.getElem_set]
  simp only [cntL, List.getElem_map, List.getElem_range, cntW_snoc]
  by_cases e : w = i
  · subst e; simp
  · rw [if_neg e, if_neg (by omega)]; simp
theorem cntL_none (ws : List Int) : cntL (ws ++ [-1]) = cntL ws := by
  unfold cntL
  refine List.map_congr_left fun s _ => ?_
  rw [cntW_snoc, if_neg (by omega), Nat.add_zero]
theorem cntL_len (ws : List Int) : (cntL ws).length = 10 := by simp [cntL]
theorem fit_no {sh feet ws : List Int} (hl : ws.length = feet.length) {i : Nat} (hi : i < feet.length) (h : wearOk (feet[i], ws[i]'(by omega)) = false) : fitB sh feet ws = false := by
  unfold fitB
  have hz : (feet[i], ws[i]'(by omega)) ∈ feet.zip ws := by
    rw [List.mem_iff_getElem]
    exact ⟨i, by rw [List.length_zip]; omega, by simp⟩
  rw [show (feet.zip ws).all wearOk = false from List.all_eq_false.2 ⟨_, hz, by rw [h]; decide⟩, Bool.false_and, Bool.and_false]
set_option maxRecDepth 100000 in
set_option maxHeartbeats 1000000 in
theorem IsFitting_j (x : Hx) (a : Option Addr) (cap : Nat) (feet : List Int) (wa : Option Addr) (wc : Nat) (ws : List Int) (hV : VHs x.h) (hl : feet.length ≤ 1000) (hf : ∀ f ∈ feet, 0 ≤ f ∧ f ≤ 9) : Cv Try.prog 49 [.agg #[I x.h.lanes, .slice x.a x.h.shoes.length x.c], .slice a feet.length cap, .slice wa ws.length wc] (KAnd (KHx x) (KAnd (KSl a feet.length cap encI feet) (KSl wa ws.length wc encI ws))) (.bool (fitB x.h.shoes feet ws)) := by
  have hn := hV.n
  refine Cx_of Try.func49 rfl Try.ntmps49 rfl fun w0 M0 => ?_
  refine JC_seq ?_
  refine JC_region ?_
  refine JL_step rfl rfl rfl (jo_box rfl rfl) fun b3 => ?_
  refine JL_pd rfl (det_assign rfl) ?_
  refine JL_nil ?_
  refine JE_seq ?_
  refine JC_seq ?_
  refine JC_seq ?_
  refine JC_region ?_
  refine JL_pd rfl (det_move rfl) ?_
  refine JL_pd rfl (det_len rfl Try.runUnderlying22) ?_
  refine JL_pd rfl (det_move rfl) ?_
  refine JL_pd rfl (det_len rfl Try.runUnderlying22) ?_
  refine JL_pd rfl (det_neq rfl rfl) ?_
  refine JL_nil ?_
  refine JE_seq ?_
  -- stop: cond
  refine JC_ifn rfl (fun h1 => ?_) (fun h1 => ?_)
  · refine JC_seq ?_
    refine JC_region ?_
    refine JL_pd rfl (det_assign rfl) ?_
    refine JL_nil ?_
    refine JE_seq ?_
    refine JC_ret ?_
    refine JE_seq_ret ?_
    -- stop: out
    refine JE_out (.inl rfl) () (results1 Try.results49 (res_tmp rfl)) (by unfold fitB; rw [decide_eq_false (by omega), Bool.false_and]) (List.Perm.refl _) (fun _ _ => trivial)
  · have hwl : ws.length = feet.length := by omega
    have hzl : (feet.zip ws).length = feet.length := by rw [List.length_zip]; omega
    refine JC_skip ?_
    refine JE_seq ?_
    refine JC_seq ?_
    refine JC_region ?_
    refine JL_step rfl rfl rfl (jo_alloc0 Try.zeroValue110 rfl) fun b7 => ?_
    refine JL_nil ?_
    refine JE_seq ?_
    refine JC_seq ?_
    refine JC_seq ?_
    refine JC_region ?_
    refine JL_pd rfl (det_assign rfl) ?_
    refine JL_nil ?_
    refine JE_seq ?_
    refine JC_block ?_
    -- stop: loop
    refine JC_keep b3 noFp ?_
    refine JC_loopF (γ := Nat) (fun i => i ≤ feet.length ∧ ∀ z ∈ (feet.zip ws).take i, wearOk z = true) (fun i => [(8, I i)]) (fun i => [bx b7 ((cntL (ws.take i)).flatMap encI)]) (fun i => feet.length - i) 0 ⟨Nat.zero_le _, by simp⟩ (stsub_consI rfl rfl stsub_nil) (ht_bx (by rw [List.take_zero]; rfl) ht_nil) ?_
    rintro i ⟨hi, hok⟩ K hK
    dsimp only [List.cons_append, List.nil_append]
    refine JC_seq ?_
    refine JC_seq ?_
    refine JC_region ?_
    refine JL_pd rfl (det_move rfl) ?_
    refine JL_pd rfl (det_move rfl) ?_
    refine JL_pd rfl (det_len rfl Try.runUnderlying22) ?_
    refine JL_pd rfl (det_lss rfl rfl) ?_
    refine JL_nil ?_
    refine JE_seq ?_
    -- stop: cond
    refine JC_if rfl (fun h2 => ?_) (fun h2 => ?_)
    · have hi2 : i < ws.length := by omega
      have hfi := hf _ (List.getElem_mem (show i < feet.length by omega))
      have hsn : ws.take (i + 1) = ws.take i ++ [ws[i]] := take_snoc hi2
      have hzn : (feet.zip ws).take (i + 1) = (feet.zip ws).take i ++ [(feet[i]'(by omega), ws[i])] := by rw [take_snoc (by omega)]; simp
      have hok2 : wearOk (feet[i]'(by omega), ws[i]) = true → ∀ z ∈ (feet.zip ws).take (i + 1), wearOk z = true := fun hw z hz => by
        rw [hzn] at hz
        rcases List.mem_append.1 hz with hz | hz
        · exact hok z hz
        · rw [List.mem_singleton.1 hz]; exact hw
      have hcb : ∀ s : Int, (cntW (ws.take i) s : Int) ≤ 1000 := fun s => by
        have : cntW (ws.take i) s ≤ (ws.take i).length := List.countP_le_length
        rw [List.length_take] at this; omega
      refine JC_skip ?_
      refine JE_seq ?_
      refine JC_seq ?_
      refine JC_block ?_
      refine JC_seq ?_
      refine JC_seq ?_
      refine JC_region ?_
      refine JL_pd rfl (det_move rfl) ?_
      refine JL_pd rfl (det_move rfl) ?_
      refine JL_dt rfl (det_indexAddr rfl rfl (by first | rfl | omega) (by first | assumption | omega | decide) Try.runUnderlying22 Try.sizeOf3) ?_
      refine JL_dt rfl (det_loadE rfl (by first | assumption | omega | decide) Try.isAgg3 rfl rfl) ?_
      refine JL_pd rfl (det_eql rfl rfl) ?_
      refine JL_nil ?_
      refine JE_seq ?_
      -- stop: cond
      refine JC_if rfl (fun h3 => ?_) (fun h3 => ?_)
      · have hw : wearOk (feet[i]'(by omega), ws[i]) = true := by unfold wearOk; simp [h3]
        refine JC_exit ?_
        refine JE_seq_exit ?_
        refine JE_block_here ?_
        refine JE_seq ?_
        refine JC_region ?_
        refine JL_pd rfl (det_move rfl) ?_
        refine JL_pd rfl (det_add rfl rfl ⟨by omega, by omega⟩) ?_
        refine JL_pd rfl (det_assign rfl) ?_
        refine JL_nil ?_
        -- stop: end
        exact JE_roundF hK (i + 1) ⟨by omega, hok2 hw⟩ (by omega) (stsub_consI rfl (by omega) stsub_nil) (ht_bx (by rw [hsn, h3, cntL_none]) ht_nil)
      · refine JC_skip ?_
        refine JE_seq ?_
        refine JC_seq ?_
        refine JC_seq ?_
        refine JC_draw [] (by kernel_rfl) ?_
        refine JA_pd (i := 0) rfl (by kernel_rfl) rfl rfl (det_move rfl) ?_
        refine JA_pd (i := 1) rfl (by kernel_rfl) rfl rfl (det_move rfl) ?_
        refine JA_dt (i := 2) rfl (by kernel_rfl) (by kernel_rfl) rfl rfl (det_indexAddr rfl rfl (by first | rfl | omega) (by first | assumption | omega | decide) Try.runUnderlying22 Try.sizeOf3) ?_
        refine JA_dt (i := 3) rfl (by kernel_rfl) (by kernel_rfl) rfl rfl (det_loadE rfl (by first | assumption | omega | decide) Try.isAgg3 rfl rfl) ?_
        refine JA_one (i := 4) (by kernel_rfl) rfl rfl (jo_callv rfl rfl Try.call31 rfl (In_j _ _ _)) (fun _ => ⟨hsub_refl, fun _ h => h⟩) fun _ => ?_
        refine JA_pd (i := 5) rfl (by kernel_rfl) rfl rfl (det_not rfl) ?_
        refine JA_pd (i := 6) rfl (by kernel_rfl) rfl rfl (det_move rfl) ?_
        -- stop: guard 6
        by_cases q1 : inI ws[i] 0 9 = true
        · have hr := inI_iff.1 q1
          obtain ⟨w, hw⟩ : ∃ w : Nat, ws[i] = (w : Int) := ⟨ws[i].toNat, by omega⟩
          have hcb := hcb (w : Int)
          by_cases q2 : ws[i] = feet[i]'(by omega)
          · have hwk : wearOk (feet[i]'(by omega), ws[i]) = true := by unfold wearOk; simp only; rw [q1, decide_eq_true (show ws[i] = feet[i]'(by omega) ∨ ws[i] = feet[i]'(by omega) + 1 from .inl q2)]; simp
            refine JA_is (d0 := 32) false rfl (by rw [q1]; rfl) (fun g1 => ?_)
            refine JA_gpd (i := 7) rfl (by kernel_rfl) rfl rfl rfl rfl g1 (det_move rfl) ?_
            refine JA_gpd (i := 8) rfl (by kernel_rfl) rfl rfl rfl rfl g1 (det_move rfl) ?_
            refine JA_gdt (i := 9) rfl (by kernel_rfl) (by kernel_rfl) rfl rfl rfl rfl g1 (det_indexAddr rfl rfl (by first | rfl | omega) (by first | assumption | omega | decide) Try.runUnderlying22 Try.sizeOf3) ?_
            refine JA_gdt (i := 10) rfl (by kernel_rfl) (by kernel_rfl) rfl rfl rfl rfl g1 (det_loadE rfl (by first | assumption | omega | decide) Try.isAgg3 rfl rfl) ?_
            refine JA_gpd (i := 11) rfl (by kernel_rfl) rfl rfl rfl rfl g1 (det_move rfl) ?_
            refine JA_gpd (i := 12) rfl (by kernel_rfl) rfl rfl rfl rfl g1 (det_move rfl) ?_
            refine JA_gdt (i := 13) rfl (by kernel_rfl) (by kernel_rfl) rfl rfl rfl rfl g1 (det_indexAddr rfl rfl (by first | rfl | omega) (by first | assumption | omega | decide) Try.runUnderlying22 Try.sizeOf3) ?_
            refine JA_gdt (i := 14) rfl (by kernel_rfl) (by kernel_rfl) rfl rfl rfl rfl g1 (det_loadE rfl (by first | assumption | omega | decide) Try.isAgg3 rfl rfl) ?_
            refine JA_gpd (i := 15) rfl (by kernel_rfl) rfl rfl rfl rfl g1 (det_neq rfl rfl) ?_
            refine JA_gpd (i := 16) rfl (by kernel_rfl) rfl rfl rfl rfl g1 (det_move rfl) ?_
            -- stop: guard 16
            refine JA_is (d0 := 42) false rfl (by rw [decide_eq_true q2]; rfl) (fun g2 => ?_)
            refine JA_skip (i := 17) rfl (by kernel_rfl) rfl rfl rfl rfl g2 ?_
            refine JA_skip (i := 18) rfl (by kernel_rfl) rfl rfl rfl rfl g2 ?_
            refine JA_skip (i := 19) rfl (by kernel_rfl) rfl rfl rfl rfl g2 ?_
            refine JA_skip (i := 20) rfl (by kernel_rfl) rfl rfl rfl rfl g2 ?_
            refine JA_skip (i := 21) rfl (by kernel_rfl) rfl rfl rfl rfl g2 ?_
            refine JA_skip (i := 22) rfl (by kernel_rfl) rfl rfl rfl rfl g2 ?_
            refine JA_skip (i := 23) rfl (by kernel_rfl) rfl rfl rfl rfl g2 ?_
            refine JA_skip (i := 24) rfl (by kernel_rfl) rfl rfl rfl rfl g2 ?_
            refine JA_skip (i := 25) rfl (by kernel_rfl) rfl rfl rfl rfl g2 ?_
            refine JA_skip (i := 26) rfl (by kernel_rfl) rfl rfl rfl rfl g2 ?_
            refine JA_gpd (i := 27) rfl (by kernel_rfl) rfl rfl rfl rfl g1 (det_pick_f rfl g2 rfl) ?_
            refine JA_pd (i := 28) rfl (by kernel_rfl) rfl rfl (det_pick_f rfl g1 rfl) ?_
            refine JA_done (by kernel_rfl) ?_
            refine JE_seq ?_
            refine JC_condF rfl rfl ?_
            refine JC_skip ?_
            refine JE_seq ?_
            refine JC_region ?_
            refine JL_pd rfl (det_move rfl) ?_
            refine JL_pd rfl (det_move rfl) ?_
            refine JL_dt rfl (det_indexAddr rfl rfl (by first | rfl | omega) (by first | assumption | omega | decide) Try.runUnderlying22 Try.sizeOf3) ?_
            refine JL_dt rfl (det_loadE rfl (by first | assumption | omega | decide) Try.isAgg3 rfl rfl) ?_
            refine JL_pd rfl (det_indexArr (i := w) rfl rfl (by omega) (by omega) Try.runUnderlying110 Try.sizeOf3) ?_
            refine JL_dt rfl (det_loadK rfl Try.isAgg3 (by rw [Nat.zero_add, Nat.mul_one]; exact cntL_get (ws.take i) w (by omega))) ?_
            refine JL_pd rfl (det_add rfl rfl ⟨by omega, by omega⟩) ?_
            refine JL_pd rfl (det_indexArr (i := w) rfl rfl (by omega) (by omega) Try.runUnderlying110 Try.sizeOf3) ?_
            refine JL_step0 rfl rfl (jo_store (cs' := ((cntL (ws.take i)).set w ((cntW (ws.take i) w : Int) + 1)).flatMap encI) (vs := [I ((cntW (ws.take i) w : Int) + 1)]) rfl rfl rfl (by rw [Nat.zero_add]; exact splice_rec encI (cntL (ws.take i)) w _ (by rw [cntL_len]; omega)) Try.sizeOf3 (Nat.ble_eq_true_of_le (by rw [flat_len, cntL_len]; simp; omega)) rfl) fun _ => ?_
            refine JL_nil ?_
            refine JE_block ?_
            refine JE_seq ?_
            refine JC_region ?_
            refine JL_pd rfl (det_move rfl) ?_
            refine JL_pd rfl (det_add rfl rfl ⟨by omega, by omega⟩) ?_
            refine JL_pd rfl (det_assign rfl) ?_
            refine JL_nil ?_
            -- stop: end
            exact JE_roundF hK (i + 1) ⟨by omega, hok2 hwk⟩ (by omega) (stsub_consI rfl (by omega) stsub_nil) (ht_bx (by rw [hsn, hw, cntL_snoc _ _ (by omega)]) ht_nil)
          · skip
            refine JA_is (d0 := 32) false rfl (by rw [q1]; rfl) (fun g1 => ?_)
            refine JA_gpd (i := 7) rfl (by kernel_rfl) rfl rfl rfl rfl g1 (det_move rfl) ?_
            refine JA_gpd (i := 8) rfl (by kernel_rfl) rfl rfl rfl rfl g1 (det_move rfl) ?_
            refine JA_gdt (i := 9) rfl (by kernel_rfl) (by kernel_rfl) rfl rfl rfl rfl g1 (det_indexAddr rfl rfl (by first | rfl | omega) (by first | assumption | omega | decide) Try.runUnderlying22 Try.sizeOf3) ?_
            refine JA_gdt (i := 10) rfl (by kernel_rfl) (by kernel_rfl) rfl rfl rfl rfl g1 (det_loadE rfl (by first | assumption | omega | decide) Try.isAgg3 rfl rfl) ?_
            refine JA_gpd (i := 11) rfl (by kernel_rfl) rfl rfl rfl rfl g1 (det_move rfl) ?_
            refine JA_gpd (i := 12) rfl (by kernel_rfl) rfl rfl rfl rfl g1 (det_move rfl) ?_
            refine JA_gdt (i := 13) rfl (by kernel_rfl) (by kernel_rfl) rfl rfl rfl rfl g1 (det_indexAddr rfl rfl (by first | rfl | omega) (by first | assumption | omega | decide) Try.runUnderlying22 Try.sizeOf3) ?_
            refine JA_gdt (i := 14) rfl (by kernel_rfl) (by kernel_rfl) rfl rfl rfl rfl g1 (det_loadE rfl (by first | assumption | omega | decide) Try.isAgg3 rfl rfl) ?_
            refine JA_gpd (i := 15) rfl (by kernel_rfl) rfl rfl rfl rfl g1 (det_neq rfl rfl) ?_
            refine JA_gpd (i := 16) rfl (by kernel_rfl) rfl rfl rfl rfl g1 (det_move rfl) ?_
            -- stop: guard 16
            refine JA_is (d0 := 42) true rfl (by rw [decide_eq_false q2]; rfl) (fun g2 => ?_)
            refine JA_gpd (i := 17) rfl (by kernel_rfl) rfl rfl rfl rfl g2 (det_move rfl) ?_
            refine JA_gpd (i := 18) rfl (by kernel_rfl) rfl rfl rfl rfl g2 (det_move rfl) ?_
            refine JA_gdt (i := 19) rfl (by kernel_rfl) (by kernel_rfl) rfl rfl rfl rfl g2 (det_indexAddr rfl rfl (by first | rfl | omega) (by first | assumption | omega | decide) Try.runUnderlying22 Try.sizeOf3) ?_
            refine JA_gdt (i := 20) rfl (by kernel_rfl) (by kernel_rfl) rfl rfl rfl rfl g2 (det_loadE rfl (by first | assumption | omega | decide) Try.isAgg3 rfl rfl) ?_
            refine JA_gpd (i := 21) rfl (by kernel_rfl) rfl rfl rfl rfl g2 (det_move rfl) ?_
            refine JA_gpd (i := 22) rfl (by kernel_rfl) rfl rfl rfl rfl g2 (det_move rfl) ?_
            refine JA_gdt (i := 23) rfl (by kernel_rfl) (by kernel_rfl) rfl rfl rfl rfl g2 (det_indexAddr rfl rfl (by first | rfl | omega) (by first | assumption | omega | decide) Try.runUnderlying22 Try.sizeOf3) ?_
            refine JA_gdt (i := 24) rfl (by kernel_rfl) (by kernel_rfl) rfl rfl rfl rfl g2 (det_loadE rfl (by first | assumption | omega | decide) Try.isAgg3 rfl rfl) ?_
            refine JA_gpd (i := 25) rfl (by kernel_rfl) rfl rfl rfl rfl g2 (det_add rfl rfl ⟨by omega, by omega⟩) ?_
            refine JA_gpd (i := 26) rfl (by kernel_rfl) rfl rfl rfl rfl g2 (det_neq rfl rfl) ?_
            refine JA_gpd (i := 27) rfl (by kernel_rfl) rfl rfl rfl rfl g1 (det_pick_t rfl g2 rfl) ?_
            refine JA_pd (i := 28) rfl (by kernel_rfl) rfl rfl (det_pick_f rfl g1 rfl) ?_
            refine JA_done (by kernel_rfl) ?_
            refine JE_seq ?_
            -- stop: cond
            refine JC_cond rfl (fun q3 => ?_) (fun q3 => ?_)
            · have q3 : ws[i] ≠ feet[i]'(by omega) + 1 := by simpa using q3
              refine JC_seq ?_
              refine JC_region ?_
              refine JL_pd rfl (det_assign rfl) ?_
              refine JL_nil ?_
              refine JE_seq ?_
              refine JC_ret ?_
              refine JE_seq_ret ?_
              refine JE_block_ret ?_
              refine JE_seq_ret ?_
              refine JE_then_ret ?_
              refine JE_block_ret ?_
              refine JE_seq_ret ?_
              -- stop: out
              refine JE_out (.inl rfl) () (results1 Try.results49 (res_tmp rfl)) (by rw [fit_no hwl (i := i) (by omega) (by unfold wearOk; simp only; rw [decide_eq_false h3, decide_eq_false (fun q => q.elim q2 q3)]; simp)]) (List.Perm.refl _) (fun _ _ => trivial)
            · have q3 : ws[i] = feet[i]'(by omega) + 1 := by simpa using q3
              have hwk : wearOk (feet[i]'(by omega), ws[i]) = true := by unfold wearOk; simp only; rw [q1, decide_eq_true (show ws[i] = feet[i]'(by omega) ∨ ws[i] = feet[i]'(by omega) + 1 from .inr q3)]; simp
              refine JC_skip ?_
              refine JE_seq ?_
              refine JC_region ?_
              refine JL_pd rfl (det_move rfl) ?_
              refine JL_pd rfl (det_move rfl) ?_
              refine JL_dt rfl (det_indexAddr rfl rfl (by first | rfl | omega) (by first | assumption | omega | decide) Try.runUnderlying22 Try.sizeOf3) ?_
              refine JL_dt rfl (det_loadE rfl (by first | assumption | omega | decide) Try.isAgg3 rfl rfl) ?_
              refine JL_pd rfl (det_indexArr (i := w) rfl rfl (by omega) (by omega) Try.runUnderlying110 Try.sizeOf3) ?_
              refine JL_dt rfl (det_loadK rfl Try.isAgg3 (by rw [Nat.zero_add, Nat.mul_one]; exact cntL_get (ws.take i) w (by omega))) ?_
              refine JL_pd rfl (det_add rfl rfl ⟨by omega, by omega⟩) ?_
              refine JL_pd rfl (det_indexArr (i := w) rfl rfl (by omega) (by omega) Try.runUnderlying110 Try.sizeOf3) ?_
              refine JL_step0 rfl rfl (jo_store (cs' := ((cntL (ws.take i)).set w ((cntW (ws.take i) w : Int) + 1)).flatMap encI) (vs := [I ((cntW (ws.take i) w : Int) + 1)]) rfl rfl rfl (by rw [Nat.zero_add]; exact splice_rec encI (cntL (ws.take i)) w _ (by rw [cntL_len]; omega)) Try.sizeOf3 (Nat.ble_eq_true_of_le (by rw [flat_len, cntL_len]; simp; omega)) rfl) fun _ => ?_
              refine JL_nil ?_
              refine JE_block ?_
              refine JE_seq ?_
              refine JC_region ?_
              refine JL_pd rfl (det_move rfl) ?_
              refine JL_pd rfl (det_add rfl rfl ⟨by omega, by omega⟩) ?_
              refine JL_pd rfl (det_assign rfl) ?_
              refine JL_nil ?_
              -- stop: end
              exact JE_roundF hK (i + 1) ⟨by omega, hok2 hwk⟩ (by omega) (stsub_consI rfl (by omega) stsub_nil) (ht_bx (by rw [hsn, hw, cntL_snoc _ _ (by omega)]) ht_nil)
        · skip
          refine JA_is (d0 := 32) true rfl (by rw [show inI ws[i] 0 9 = false by simpa using q1]; rfl) (fun g1 => ?_)
          refine JA_skip (i := 7) rfl (by kernel_rfl) rfl rfl rfl rfl g1 ?_
          refine JA_skip (i := 8) rfl (by kernel_rfl) rfl rfl rfl rfl g1 ?_
          refine JA_skip (i := 9) rfl (by kernel_rfl) rfl rfl rfl rfl g1 ?_
          refine JA_skip (i := 10) rfl (by kernel_rfl) rfl rfl rfl rfl g1 ?_
          refine JA_skip (i := 11) rfl (by kernel_rfl) rfl rfl rfl rfl g1 ?_
          refine JA_skip (i := 12) rfl (by kernel_rfl) rfl rfl rfl rfl g1 ?_
          refine JA_skip (i := 13) rfl (by kernel_rfl) rfl rfl rfl rfl g1 ?_
          refine JA_skip (i := 14) rfl (by kernel_rfl) rfl rfl rfl rfl g1 ?_
          refine JA_skip (i := 15) rfl (by kernel_rfl) rfl rfl rfl rfl g1 ?_
          refine JA_skip (i := 16) rfl (by kernel_rfl) rfl rfl rfl rfl g1 ?_
          refine JA_skipU (i := 17) rfl (by kernel_rfl) rfl rfl rfl rfl ?_
          refine JA_skipU (i := 18) rfl (by kernel_rfl) rfl rfl rfl rfl ?_
          refine JA_skipU (i := 19) rfl (by kernel_rfl) rfl rfl rfl rfl ?_
          refine JA_skipU (i := 20) rfl (by kernel_rfl) rfl rfl rfl rfl ?_
          refine JA_skipU (i := 21) rfl (by kernel_rfl) rfl rfl rfl rfl ?_
          refine JA_skipU (i := 22) rfl (by kernel_rfl) rfl rfl rfl rfl ?_
          refine JA_skipU (i := 23) rfl (by kernel_rfl) rfl rfl rfl rfl ?_
          refine JA_skipU (i := 24) rfl (by kernel_rfl) rfl rfl rfl rfl ?_
          refine JA_skipU (i := 25) rfl (by kernel_rfl) rfl rfl rfl rfl ?_
          refine JA_skipU (i := 26) rfl (by kernel_rfl) rfl rfl rfl rfl ?_
          refine JA_skip (i := 27) rfl (by kernel_rfl) rfl rfl rfl rfl g1 ?_
          refine JA_pd (i := 28) rfl (by kernel_rfl) rfl rfl (det_pick_t rfl g1 rfl) ?_
          refine JA_done (by kernel_rfl) ?_
          refine JE_seq ?_
          refine JC_condT rfl rfl ?_
          refine JC_seq ?_
          refine JC_region ?_
          refine JL_pd rfl (det_assign rfl) ?_
          refine JL_nil ?_
          refine JE_seq ?_
          refine JC_ret ?_
          refine JE_seq_ret ?_
          refine JE_block_ret ?_
          refine JE_seq_ret ?_
          refine JE_then_ret ?_
          refine JE_block_ret ?_
          refine JE_seq_ret ?_
          -- stop: out
          refine JE_out (.inl rfl) () (results1 Try.results49 (res_tmp rfl)) (by rw [fit_no hwl (i := i) (by omega) (by unfold wearOk; simp only; rw [decide_eq_false h3, show inI ws[i] 0 9 = false by simpa using q1]; simp)]) (List.Perm.refl _) (fun _ _ => trivial)
    · obtain rfl : i = feet.length := by omega
      rw [List.take_of_length_le (by omega)] at hok ⊢
      refine JC_exit ?_
      refine JE_seq_exit ?_
      refine JE_then_exit ?_
      refine JE_block_here ?_
      refine JE_seq ?_
      refine JC_seq ?_
      refine JC_seq ?_
      refine JC_region ?_
      refine JL_pd rfl (det_assign rfl) ?_
      refine JL_nil ?_
      refine JE_seq ?_
      refine JC_block ?_
      -- stop: loop
      refine JC_loopF (γ := Nat) (fun s => s ≤ 10 ∧ ∀ i : Nat, i < s → (cntW ws i : Int) ≤ shoe x.h.shoes i) (fun s => [(9, I s)]) (fun _ => []) (fun s => 10 - s) 0 ⟨by omega, fun i hi => by omega⟩ (stsub_consI rfl rfl stsub_nil) ht_nil ?_
      rintro s ⟨hs, hle⟩ K2 hK2
      dsimp only [List.cons_append, List.nil_append]
      refine JC_seq ?_
      refine JC_seq ?_
      refine JC_region ?_
      refine JL_pd rfl (det_move rfl) ?_
      refine JL_pd rfl (det_lss rfl rfl) ?_
      refine JL_nil ?_
      refine JE_seq ?_
      -- stop: cond
      refine JC_if rfl (fun h4 => ?_) (fun h4 => ?_)
      · have hs2 : s < x.h.shoes.length := by omega
        have hsg := shoe_get hs2
        refine JC_skip ?_
        refine JE_seq ?_
        refine JC_seq ?_
        refine JC_block ?_
        refine JC_seq ?_
        refine JC_draw [] (by kernel_rfl) ?_
        refine JA_pd (i := 0) rfl (by kernel_rfl) rfl rfl (det_move rfl) ?_
        refine JA_pd (i := 1) rfl (by kernel_rfl) rfl rfl (det_indexArr (i := s) rfl rfl (by omega) (by omega) Try.runUnderlying110 Try.sizeOf3) ?_
        refine JA_dt (i := 2) rfl (by kernel_rfl) (by kernel_rfl) rfl rfl (det_loadK rfl Try.isAgg3 (by rw [Nat.zero_add, Nat.mul_one]; exact cntL_get ws s (by omega))) ?_
        refine JA_pd (i := 3) rfl (by kernel_rfl) rfl rfl (det_fieldAddr rfl fo_24_1) ?_
        refine JA_dt (i := 4) rfl (by kernel_rfl) (by kernel_rfl) rfl rfl (det_loadK rfl Try.isAgg22 rfl) ?_
        refine JA_pd (i := 5) rfl (by kernel_rfl) rfl rfl (det_move rfl) ?_
        refine JA_dt (i := 6) rfl (by kernel_rfl) (by kernel_rfl) rfl rfl (det_indexAddr rfl rfl (by first | rfl | omega) (by first | assumption | omega | decide) Try.runUnderlying22 Try.sizeOf3) ?_
        refine JA_dt (i := 7) rfl (by kernel_rfl) (by kernel_rfl) rfl rfl (det_loadE rfl (by first | assumption | omega | decide) Try.isAgg3 rfl rfl) ?_
        refine JA_pd (i := 8) rfl (by kernel_rfl) rfl rfl (det_gtr rfl rfl) ?_
        refine JA_done (by kernel_rfl) ?_
        refine JE_seq ?_
        -- stop: cond
        refine JC_if rfl (fun h5 => ?_) (fun h5 => ?_)
        · refine JC_seq ?_
          refine JC_region ?_
          refine JL_pd rfl (det_assign rfl) ?_
          refine JL_nil ?_
          refine JE_seq ?_
          refine JC_ret ?_
          refine JE_block_ret ?_
          refine JE_seq_ret ?_
          refine JE_then_ret ?_
          refine JE_block_ret ?_
          refine JE_seq_ret ?_
          -- stop: out
          refine JE_out (.inl rfl) () (results1 Try.results49 (res_tmp rfl)) (by rw [← hsg] at h5; unfold fitB; rw [show ((List.range 10).all fun s => decide ((cntW ws s : Int) ≤ shoe x.h.shoes s)) = false from List.all_eq_false.2 ⟨s, List.mem_range.2 (by omega), by simpa using h5⟩, Bool.and_false, Bool.and_false]) (List.Perm.refl _) (fun _ _ => trivial)
        · refine JC_skip ?_
          refine JE_block ?_
          refine JE_seq ?_
          refine JC_region ?_
          refine JL_pd rfl (det_move rfl) ?_
          refine JL_pd rfl (det_add rfl rfl ⟨by omega, by omega⟩) ?_
          refine JL_pd rfl (det_assign rfl) ?_
          refine JL_nil ?_
          -- stop: end
          exact JE_roundF hK2 (s + 1) ⟨by omega, fun i hi => by rcases Nat.lt_or_eq_of_le (Nat.le_of_lt_succ hi) with h | rfl; exact hle i h; rw [hsg]; omega⟩ (by omega) (stsub_consI rfl (by omega) stsub_nil) ht_nil
      · obtain rfl : s = 10 := by omega
        refine JC_exit ?_
        refine JE_seq_exit ?_
        refine JE_then_exit ?_
        refine JE_block_here ?_
        refine JE_seq ?_
        refine JC_seq ?_
        refine JC_region ?_
        refine JL_pd rfl (det_assign rfl) ?_
        refine JL_nil ?_
        refine JE_seq ?_
        refine JC_ret ?_
        -- stop: out
        refine JE_out (.inl rfl) () (results1 Try.results49 (res_tmp rfl)) (by rw [fitB_iff.2 ⟨hwl, hok, fun s hs => hle s hs⟩]) (List.Perm.refl _) (fun _ _ => trivial)
end Go.Proofs.Ytkmaafnbefpdjaa

/- Walks of the reference of lend: as few as can be have none. -/
namespace Go.Proofs.Ytkmaafnbefpdjaa
open Go.RowKit Go.Shelf

/-- The least, the first ways tried. -/
def barF2 (sh feet : List Int) (n : Nat) (ws : List Int) (f : Int) : Nat → Int
  | 0 => bareV sh feet n (ws ++ [-1])
  | d + 1 => if fitB sh (feet.take (ws.length + 1)) (ws ++ [f + (d : Int)]) = true then min (barF2 sh feet n ws f d) (bareV sh feet n (ws ++ [f + (d : Int)])) else barF2 sh feet n ws f d
theorem bareV_succ (sh feet : List Int) (n : Nat) (ws : List Int) (f : Int) (hf : feet.getD ws.length 0 = f) (h : 0 ≤ f ∧ f ≤ 9) (d : Nat) (hd : d ≤ 2) (hd2 : d = 2 ∨ f + (d : Int) = 10) (hd3 : f + (d : Int) ≤ 10) : bareV sh feet (n + 1) ws = barF2 sh feet n ws f d := by
  unfold bareV
  rw [hf]
  rcases (by omega : d = 2 ∧ f ≤ 8 ∨ d = 1 ∧ f = 9) with ⟨rfl, h2⟩ | ⟨rfl, h2⟩
  · have e0 : decide (f + ((0 : Nat) : Int) < 10) = true := decide_eq_true (by omega)
    have e1 : decide (f + ((1 : Nat) : Int) < 10) = true := decide_eq_true (by omega)
    simp only [List.filter_cons, List.filter_nil, e0, e1, if_true, List.foldl_cons, List.foldl_nil]
    rfl
  · have e0 : decide (f + ((0 : Nat) : Int) < 10) = true := decide_eq_true (by omega)
    have e1 : decide (f + ((1 : Nat) : Int) < 10) = false := decide_eq_false (by omega)
    simp only [List.filter_cons, List.filter_nil, e0, e1, if_true, Bool.false_eq_true, if_false, List.foldl_cons, List.foldl_nil]
    rfl
set_option maxRecDepth 100000 in
set_option maxHeartbeats 1000000 in
theorem Barest_j (x : Hx) (fa : Option Addr) (fc : Nat) (feet : List Int) (hV : VHs x.h) (hl : feet.length ≤ 1000) (hf : ∀ f ∈ feet, 0 ≤ f ∧ f ≤ 9) : ∀ (n : Nat) (ws : List Int) (a : Option Addr) (cap : Nat), ws.length + n = feet.length →
    Cv Try.prog 52 [.agg #[I x.h.lanes, .slice x.a x.h.shoes.length x.c], .slice fa feet.length fc, .slice a ws.length cap] (KAnd (KHx x) (KAnd (KSl fa feet.length fc encI feet) (KSl a ws.length cap encI ws))) (I (bareV x.h.shoes feet n ws)) := by
  intro n
  induction n with
  | zero =>
    intro ws a cap hn
    refine Cx_of Try.func52 rfl Try.ntmps52 rfl fun w0 M0 => ?_
    refine JC_seq ?_
    refine JC_region ?_
    refine JL_step rfl rfl rfl (jo_box rfl rfl) fun b3 => ?_
    refine JL_pd rfl (det_assign rfl) ?_
    refine JL_nil ?_
    refine JE_seq ?_
    refine JC_seq ?_
    refine JC_seq ?_
    refine JC_region ?_
    refine JL_pd rfl (det_move rfl) ?_
    refine JL_pd rfl (det_len rfl Try.runUnderlying22) ?_
    refine JL_pd rfl (det_move rfl) ?_
    refine JL_pd rfl (det_len rfl Try.runUnderlying22) ?_
    refine JL_pd rfl (det_eql rfl rfl) ?_
    refine JL_nil ?_
    refine JE_seq ?_
    -- stop: cond
    refine JC_if rfl (fun h1 => ?_) (fun h1 => ?_)
    · refine JC_seq ?_
      refine JC_region ?_
      refine JL_pd rfl (det_move rfl) ?_
      refine JL_step rfl rfl rfl (jo_callv rfl rfl Try.call51 rfl (Bare_j a cap ws (by omega))) fun _ => ?_
      refine JL_pd rfl (det_assign rfl) ?_
      refine JL_nil ?_
      refine JE_seq ?_
      refine JC_ret ?_
      refine JE_seq_ret ?_
      -- stop: out
      refine JE_out (.inl rfl) () (results1 Try.results52 (res_tmp rfl)) rfl (List.Perm.refl _) (fun _ _ => trivial)
    · exact absurd h1 (by omega)
  | succ n IH =>
    intro ws a cap hn
    have hM : ∀ y : Int, (ws ++ [y]).length = 0 + ws.length + 1 := fun y => by simp
    have hcall := fun (y : Int) (a2 : Option Addr) (c2 : Nat) => IH (ws ++ [y]) a2 c2 (by rw [hM]; omega)
    simp only [hM] at hcall
    have htl : (feet.take (ws.length + 1)).length = ws.length + 1 := by rw [List.length_take]; omega
    have hfit := fun (y : Int) (a2 : Option Addr) (c2 : Nat) => IsFitting_j x fa fc (feet.take (ws.length + 1)) a2 c2 (ws ++ [y]) hV (by rw [htl]; omega) (fun f hm => hf f (List.mem_of_mem_take hm))
    simp only [hM, htl] at hfit
    have hi : ws.length < feet.length := by omega
    obtain ⟨f, hff⟩ : ∃ f, feet[ws.length] = f := ⟨_, rfl⟩
    have hf9 := hf _ (List.getElem_mem hi)
    rw [hff] at hf9
    have hgd : feet.getD ws.length 0 = f := by rw [List.getD_eq_getElem?_getD, List.getElem?_eq_getElem hi]; exact hff
    have hres := bareV_succ x.h.shoes feet n ws f hgd hf9
    have hstep : ∀ d, barF2 x.h.shoes feet n ws f (d + 1) = if fitB x.h.shoes (feet.take (ws.length + 1)) (ws ++ [f + (d : Int)]) = true then min (barF2 x.h.shoes feet n ws f d) (bareV x.h.shoes feet n (ws ++ [f + (d : Int)])) else barF2 x.h.shoes feet n ws f d := fun d => rfl
    have hbase : bareV x.h.shoes feet n (ws ++ [-1]) = barF2 x.h.shoes feet n ws f 0 := rfl
    generalize bareV x.h.shoes feet (n + 1) ws = res at hres ⊢
    refine Cx_of Try.func52 rfl Try.ntmps52 rfl fun w0 M0 => ?_
    refine JC_seq ?_
    refine JC_region ?_
    refine JL_step rfl rfl rfl (jo_box rfl rfl) fun b3 => ?_
    refine JL_pd rfl (det_assign rfl) ?_
    refine JL_nil ?_
    refine JE_seq ?_
    refine JC_seq ?_
    refine JC_seq ?_
    refine JC_region ?_
    refine JL_pd rfl (det_move rfl) ?_
    refine JL_pd rfl (det_len rfl Try.runUnderlying22) ?_
    refine JL_pd rfl (det_move rfl) ?_
    refine JL_pd rfl (det_len rfl Try.runUnderlying22) ?_
    refine JL_pd rfl (det_eql rfl rfl) ?_
    refine JL_nil ?_
    refine JE_seq ?_
    -- stop: cond
    refine JC_if rfl (fun h1 => ?_) (fun h1 => ?_)
    · exact absurd h1 (by omega)
    refine JC_skip ?_
    refine JE_seq ?_
    refine JC_seq ?_
    -- stop: draw
    refine JC_cutN (γ := Unit) (fun _ => True) (fun u => [(7, I (bareV x.h.shoes feet n (ws ++ [-1])))]) (fun u => []) (fun K hK => ?_) (fun u _ => ?_)
    · refine JC_draw [] (by kernel_rfl) ?_
      refine JA_dt (i := 0) rfl (by kernel_rfl) (by kernel_rfl) rfl rfl (det_loadKA rfl Try.isAgg24 Try.sizeOf24 rfl rfl) ?_
      refine JA_pd (i := 1) rfl (by kernel_rfl) rfl rfl (det_move rfl) ?_
      refine JA_pd (i := 3) rfl (by kernel_rfl) rfl rfl (det_move rfl) ?_
      refine JA_ready (rs := [2, 5]) (by kernel_rfl) rfl ?_
      refine JAl_cons (i := 2) rfl rfl (jo_buildOwn (z := 1) rfl (bsl_22_0) rfl (by decide)) (fun _ => ⟨hsub_drop 1 rfl, fun _ h => h⟩) (fun b19 => ?_) ?_
      · refine JA_ready (rs := [4, 5]) (by kernel_rfl) rfl ?_
        refine JAl_consH (i := 4) rfl rfl (jo_appendK (e := encI) el_22 rfl rfl encI_one (by omega)) (fun _ => ⟨HIn.sub, Knows.know⟩) (fun b21 => ?_) ?_
        · refine JA_one (i := 5) (by kernel_rfl) rfl rfl (jo_buildSlice rfl (bsl_22_1_0 _)) (fun _ => ⟨hsub_drop 1 rfl, fun _ h => h⟩) fun b22 => ?_
          refine JA_oneH (i := 6) (by kernel_rfl) rfl rfl (jo_append el_22 rfl rfl rfl rfl (by omega)) (fun _ => ⟨HIn.sub, Knows.know⟩) fun b23 => ?_
          refine JA_slice (enc := encI) (v := .slice (some ⟨b23.1, 0, none⟩) (0 + ws.length + 1) b23.2) (ws ++ [-1]) noFp (by simp [encI]) (by simp) ?_
          rintro ka kc hkv
          cases hkv
          refine JA_one (i := 7) (by kernel_rfl) rfl rfl (jo_callv rfl rfl Try.call52 rfl (hcall (-1) _ _)) (fun _ => ⟨hsub_refl, fun _ h => h⟩) fun _ => ?_
          refine JA_pd (i := 8) rfl (by kernel_rfl) rfl rfl (det_assign rfl) ?_
          refine JA_done (by kernel_rfl) ?_
          exact JE_cutF hK () trivial (stsub_cons rfl stsub_nil) (ht_nil)
        refine JAl_cons (i := 5) rfl rfl (jo_buildSlice rfl (bsl_22_1_0 _)) (fun _ => ⟨hsub_drop 1 rfl, fun _ h => h⟩) (fun b22 => ?_) ?_
        · refine JA_oneH (i := 4) (by kernel_rfl) rfl rfl (jo_appendK (e := encI) el_22 rfl rfl encI_one (by omega)) (fun _ => ⟨HIn.sub, Knows.know⟩) fun b21 => ?_
          refine JA_oneH (i := 6) (by kernel_rfl) rfl rfl (jo_append el_22 rfl rfl rfl rfl (by omega)) (fun _ => ⟨HIn.sub, Knows.know⟩) fun b23 => ?_
          refine JA_slice (enc := encI) (v := .slice (some ⟨b23.1, 0, none⟩) (0 + ws.length + 1) b23.2) (ws ++ [-1]) noFp (by simp [encI]) (by simp) ?_
          rintro ka kc hkv
          cases hkv
          refine JA_one (i := 7) (by kernel_rfl) rfl rfl (jo_callv rfl rfl Try.call52 rfl (hcall (-1) _ _)) (fun _ => ⟨hsub_refl, fun _ h => h⟩) fun _ => ?_
          refine JA_pd (i := 8) rfl (by kernel_rfl) rfl rfl (det_assign rfl) ?_
          refine JA_done (by kernel_rfl) ?_
          exact JE_cutF hK () trivial (stsub_cons rfl stsub_nil) (ht_nil)
        exact JAl_nil
      refine JAl_cons (i := 5) rfl rfl (jo_buildSlice rfl (bsl_22_1_0 _)) (fun _ => ⟨hsub_drop 1 rfl, fun _ h => h⟩) (fun b22 => ?_) ?_
      · refine JA_one (i := 2) (by kernel_rfl) rfl rfl (jo_buildOwn (z := 1) rfl (bsl_22_0) rfl (by decide)) (fun _ => ⟨hsub_drop 1 rfl, fun _ h => h⟩) fun b19 => ?_
        refine JA_oneH (i := 4) (by kernel_rfl) rfl rfl (jo_appendK (e := encI) el_22 rfl rfl encI_one (by omega)) (fun _ => ⟨HIn.sub, Knows.know⟩) fun b21 => ?_
        refine JA_oneH (i := 6) (by kernel_rfl) rfl rfl (jo_append el_22 rfl rfl rfl rfl (by omega)) (fun _ => ⟨HIn.sub, Knows.know⟩) fun b23 => ?_
        refine JA_slice (enc := encI) (v := .slice (some ⟨b23.1, 0, none⟩) (0 + ws.length + 1) b23.2) (ws ++ [-1]) noFp (by simp [encI]) (by simp) ?_
        rintro ka kc hkv
        cases hkv
        refine JA_one (i := 7) (by kernel_rfl) rfl rfl (jo_callv rfl rfl Try.call52 rfl (hcall (-1) _ _)) (fun _ => ⟨hsub_refl, fun _ h => h⟩) fun _ => ?_
        refine JA_pd (i := 8) rfl (by kernel_rfl) rfl rfl (det_assign rfl) ?_
        refine JA_done (by kernel_rfl) ?_
        exact JE_cutF hK () trivial (stsub_cons rfl stsub_nil) (ht_nil)
      exact JAl_nil
    dsimp only [List.cons_append, List.nil_append]
    refine JC_seq ?_
    refine JC_seq ?_
    refine JC_region ?_
    refine JL_pd rfl (det_move rfl) ?_
    refine JL_pd rfl (det_move rfl) ?_
    refine JL_pd rfl (det_len rfl Try.runUnderlying22) ?_
    refine JL_dt rfl (det_indexAddr rfl rfl (by first | rfl | omega) (by first | assumption | omega | decide) Try.runUnderlying22 Try.sizeOf3) ?_
    refine JL_dt rfl (det_loadE rfl (by first | assumption | omega | decide) Try.isAgg3 rfl rfl) ?_
    refine JL_pd rfl (det_assign rfl) ?_
    refine JL_nil ?_
    refine JE_seq ?_
    refine JC_block ?_
    -- stop: loop
    refine JC_keep b3 noFp ?_
    refine JC_pure (p := feet.length ≤ fc) (by intro w h; exact (Knows.know (F := KSl fa feet.length fc encI feet) w h).1.1) fun hgc => ?_
    refine JC_loopF (γ := Nat) (fun d => d ≤ 2 ∧ f + (d : Int) ≤ 10) (fun d => [(8, I (f + (d : Int))), (7, I (barF2 x.h.shoes feet n ws f d))]) (fun _ => []) (fun d => 2 - d) 0 ⟨by omega, by omega⟩ (stsub_consI rfl (by omega) (stsub_consI rfl hbase stsub_nil)) ht_nil ?_
    rintro d ⟨hd, hd2⟩ K hK
    dsimp only [List.cons_append, List.nil_append]
    have hs := hstep d
    generalize hF : barF2 x.h.shoes feet n ws f d = F at hs
    refine JC_seq ?_
    refine JC_seq ?_
    refine JC_region ?_
    refine JL_pd rfl (det_move rfl) ?_
    refine JL_pd rfl (det_move rfl) ?_
    refine JL_pd rfl (det_move rfl) ?_
    refine JL_pd rfl (det_len rfl Try.runUnderlying22) ?_
    refine JL_dt rfl (det_indexAddr rfl rfl (by first | rfl | omega) (by first | assumption | omega | decide) Try.runUnderlying22 Try.sizeOf3) ?_
    refine JL_dt rfl (det_loadE (n := feet.length) (xs := feet) (v := I f) rfl hi Try.isAgg3 rfl (by rw [← hff]; rfl)) ?_
    refine JL_pd rfl (det_add rfl rfl ⟨by omega, by omega⟩) ?_
    refine JL_pd rfl (det_leq rfl rfl) ?_
    refine JL_pd rfl (det_move rfl) ?_
    -- stop: guard 8
    refine JL_join1 3 41 (.bool (decide (f + (d : Int) ≤ f + 1) && decide (f + (d : Int) < 10))) (fun hj => ?_) ?_
    · refine JL_split (d0 := 38) rfl (fun q1 => ?_) (fun q1 => ?_)
      · refine JL_guard rfl rfl q1 ?_
        refine JL_pd rfl (det_move rfl) ?_
        refine JL_guard rfl rfl q1 ?_
        refine JL_pd rfl (det_lss rfl rfl) ?_
        refine JL_pd rfl (det_pick_t rfl q1 rfl) ?_
        exact hj (by kernel_rfl) (stsub_consB rfl (by clear hj; first | rfl | (simp only [q1, Bool.and_true, Bool.true_and, Bool.false_and, Bool.and_false, Bool.or_true, Bool.true_or, Bool.or_false, Bool.false_or, Bool.not_true, Bool.not_false]; done) | (simp [q1]; done) | (simp at q1; done) | (simp [q1] <;> omega) | (exfalso; simp at q1; omega)) stsub_nil)
      · refine JL_skip rfl rfl q1 rfl ?_
        refine JL_skip rfl rfl q1 rfl ?_
        refine JL_pd rfl (det_pick_f rfl q1 rfl) ?_
        exact hj (by kernel_rfl) (stsub_consB rfl (by clear hj; first | rfl | (simp only [q1, Bool.and_true, Bool.true_and, Bool.false_and, Bool.and_false, Bool.or_true, Bool.true_or, Bool.or_false, Bool.false_or, Bool.not_true, Bool.not_false]; done) | (simp [q1]; done) | (simp at q1; done) | (simp [q1] <;> omega) | (exfalso; simp at q1; omega)) stsub_nil)
    refine JL_nil ?_
    refine JE_seq ?_
    -- stop: cond
    refine JC_cond rfl (fun h2 => ?_) (fun h2 => ?_)
    · simp only [Bool.and_eq_true, decide_eq_true_eq] at h2
      refine JC_know (R' := KAnd (KSl fa (ws.length + 1) fc encI (feet.take (ws.length + 1))) _) (fun w h => ⟨KSl_take (Knows.know (F := KSl fa feet.length fc encI feet) w h) (by omega), h⟩) ?_
      refine JC_skip ?_
      refine JE_seq ?_
      refine JC_seq ?_
      refine JC_block ?_
      refine JC_seq ?_
      refine JC_region ?_
      refine JL_step rfl rfl rfl (jo_buildOwn (z := 1) rfl (bsl_22_0) rfl (by decide)) fun b44 => ?_
      refine JL_pd rfl (det_move rfl) ?_
      refine JL_step rfl rfl rfl (jo_appendK (e := encI) el_22 rfl rfl encI_one (by omega)) fun b46 => ?_
      refine JL_pd rfl (det_move rfl) ?_
      refine JL_step rfl rfl rfl (jo_buildSlice rfl (bsl_22_1_0 _)) fun b48 => ?_
      refine JL_step rfl rfl rfl (jo_append el_22 rfl rfl rfl rfl (by omega)) fun b49 => ?_
      refine JL_pd rfl (det_assign rfl) ?_
      refine JL_nil ?_
      refine JE_seq ?_
      refine JC_seq ?_
      -- stop: draw
      refine JC_slice (enc := encI) (v := .slice (some ⟨b49.1, 0, none⟩) (0 + ws.length + 1) b49.2) (ws ++ [f + (d : Int)]) noFp (by simp [encI]) (by simp) ?_
      rintro ka kc hkv
      cases hkv
      refine JC_draw [] (by kernel_rfl) ?_
      refine JA_dt (i := 0) rfl (by kernel_rfl) (by kernel_rfl) rfl rfl (det_loadKA rfl Try.isAgg24 Try.sizeOf24 rfl rfl) ?_
      refine JA_pd (i := 1) rfl (by kernel_rfl) rfl rfl (det_move rfl) ?_
      refine JA_pd (i := 2) rfl (by kernel_rfl) rfl rfl (det_move rfl) ?_
      refine JA_pd (i := 3) rfl (by kernel_rfl) rfl rfl (det_len rfl Try.runUnderlying22) ?_
      refine JA_pd (i := 4) rfl (by kernel_rfl) rfl rfl (det_sliceK (ws.length + 1) rfl rfl (by simp) (by omega) Try.runUnderlying22 Try.sizeOf3) ?_
      refine JA_pd (i := 5) rfl (by kernel_rfl) rfl rfl (det_move rfl) ?_
      refine JA_one (i := 6) (by kernel_rfl) rfl rfl (jo_callv rfl rfl Try.call49 rfl (hfit (f + (d : Int)) _ _)) (fun _ => ⟨hsub_refl, fun _ h => h⟩) fun _ => ?_
      refine JA_done (by kernel_rfl) ?_
      refine JE_seq ?_
      -- stop: cond
      refine JC_cond rfl (fun h3 => ?_) (fun h3 => ?_)
      · rw [if_pos h3] at hs
        refine JC_region ?_
        refine JL_pd rfl (det_move rfl) ?_
        refine JL_dt rfl (det_loadKA rfl Try.isAgg24 Try.sizeOf24 rfl rfl) ?_
        refine JL_pd rfl (det_move rfl) ?_
        refine JL_pd rfl (det_move rfl) ?_
        refine JL_step rfl rfl rfl (jo_callv rfl rfl Try.call52 rfl (hcall (f + (d : Int)) _ _)) fun _ => ?_
        refine JL_pd rfl (det_min rfl rfl) ?_
        refine JL_pd rfl (det_assign rfl) ?_
        refine JL_nil ?_
        refine JE_block ?_
        refine JE_seq ?_
        refine JC_region ?_
        refine JL_pd rfl (det_move rfl) ?_
        refine JL_pd rfl (det_add rfl rfl ⟨by omega, by omega⟩) ?_
        refine JL_pd rfl (det_assign rfl) ?_
        refine JL_nil ?_
        -- stop: end
        exact JE_roundF hK (d + 1) ⟨by omega, by omega⟩ (by omega) (stsub_consI rfl (by omega) (stsub_consI rfl (by rw [hs]) stsub_nil)) ht_nil
      · rw [if_neg (by rw [h3]; decide)] at hs
        refine JC_skip ?_
        refine JE_block ?_
        refine JE_seq ?_
        refine JC_region ?_
        refine JL_pd rfl (det_move rfl) ?_
        refine JL_pd rfl (det_add rfl rfl ⟨by omega, by omega⟩) ?_
        refine JL_pd rfl (det_assign rfl) ?_
        refine JL_nil ?_
        -- stop: end
        exact JE_roundF hK (d + 1) ⟨by omega, by omega⟩ (by omega) (stsub_consI rfl (by omega) (stsub_consI rfl (by rw [hs]) stsub_nil)) ht_nil
    · have h2 : d = 2 ∨ f + (d : Int) = 10 := by
        by_cases e : d = 2
        · exact .inl e
        · right
          have : ¬ (f + (d : Int) < 10) := fun q => by
            rw [decide_eq_true (show f + (d : Int) ≤ f + 1 by omega), decide_eq_true q] at h2
            cases h2
          omega
      refine JC_exit ?_
      refine JE_seq_exit ?_
      refine JE_then_exit ?_
      refine JE_block_here ?_
      refine JE_seq ?_
      refine JC_seq ?_
      refine JC_region ?_
      refine JL_pd rfl (det_move rfl) ?_
      refine JL_pd rfl (det_assign rfl) ?_
      refine JL_nil ?_
      refine JE_seq ?_
      refine JC_ret ?_
      -- stop: out
      refine JE_out (.inl rfl) () (results1 Try.results52 (res_tmp rfl)) (by rw [hres d hd h2 hd2, hF]) (List.Perm.refl _) (fun _ _ => trivial)
end Go.Proofs.Ytkmaafnbefpdjaa

/- The statements about lend: the functions that they use. -/
namespace Go.Proofs.Ytkmaafnbefpdjaa
open Go.RowKit Go.Shelf

/-- How many groups can be served; how many feet have none. -/
def srvN (k : Nat) (l : List Gr) : Int := mostV k l l.length []
def barN (sh feet : List Int) : Int := lacksV sh feet 1024
theorem srvN_of {k : Nat} {l : List Gr} {p : List Int} (h : ServeFacts k l p) : srvN k l = (served p : Nat) := most_eq h
theorem barN_of {h : Hs} {feet ws : List Int} (hV : VHs h) (hf : ∀ f ∈ feet, 0 ≤ f ∧ f ≤ 9) (hw : FitOk h.shoes feet ws) : barN h.shoes feet = (bare ws : Nat) :=
  lacks_eq hf (fit_facts hV.n (fun s hs => (hV.s s hs).1) hf hw)
theorem Fit_c (x : Hx) (q : QH) (feet : List Int) (a : Option Addr) (c : Nat) (h : shodE x.h feet = 0) : Cr Try.prog 46 [.agg #[I x.h.lanes, .slice q.1 x.h.shoes.length q.2], .slice a feet.length c] (KAnd (KHx ⟨x.h, q.1, q.2⟩) (KSl a feet.length c encI feet)) (fun q : Nat × { p : List Int // FitOk x.h.shoes feet p } => .tuple #[.slice (some ⟨q.1, 0, none⟩) q.2.1.length q.2.1.length, I 0])
    (fun q => KSl (some ⟨q.1, 0, none⟩) q.2.1.length q.2.1.length encI q.2.1) := by
  have h := Fit_jo ⟨x.h, q.1, q.2⟩ a c feet h
  have hl : ∀ p : Nat × { p : List Int // FitOk x.h.shoes feet p }, p.2.1.length = feet.length := fun p => p.2.2.1
  exact h.conv (fun p => by rw [hl]) fun p w hw => by rw [hl]; exact hw
theorem Fit_ce (x : Hx) (q : QH) (feet : List Int) (a : Option Addr) (c : Nat) (h : shodE x.h feet ≠ 0) : Cv Try.prog 46 [.agg #[I x.h.lanes, .slice q.1 x.h.shoes.length q.2], .slice a feet.length c] (KAnd (KHx ⟨x.h, q.1, q.2⟩) (KSl a feet.length c encI feet)) (.tuple #[.slice none 0 0, I (shodE x.h feet)]) := Fit_je ⟨x.h, q.1, q.2⟩ a c feet h
theorem Sizes_c (x : Hx) (q : QH) (feet : List Int) (a : Option Addr) (c : Nat) (h : shodE x.h feet = 0) : Cr Try.prog 48 [.agg #[I x.h.lanes, .slice q.1 x.h.shoes.length q.2], .slice a feet.length c] (KAnd (KHx ⟨x.h, q.1, q.2⟩) (KSl a feet.length c encI feet)) (fun q : Option Addr × Nat × { S : List Int // SizesOk x.h.shoes feet S } => .tuple #[.slice q.1 q.2.2.1.length q.2.1, I 0])
    (fun q => KSl q.1 q.2.2.1.length q.2.1 encI q.2.2.1) := Sizes_jo ⟨x.h, q.1, q.2⟩ a c feet h
theorem Sizes_ce (x : Hx) (q : QH) (feet : List Int) (a : Option Addr) (c : Nat) (h : shodE x.h feet ≠ 0) : Cv Try.prog 48 [.agg #[I x.h.lanes, .slice q.1 x.h.shoes.length q.2], .slice a feet.length c] (KAnd (KHx ⟨x.h, q.1, q.2⟩) (KSl a feet.length c encI feet)) (.tuple #[.slice none 0 0, I (shodE x.h feet)]) := Sizes_je ⟨x.h, q.1, q.2⟩ a c feet h
theorem Short_ce (x : Hx) (q : QH) (xs : List Gx) (g : QG xs) (plan : List Int) (a : Option Addr) (c : Nat) (h : plannedE x.h (gs xs) plan ≠ 0) : Cv Try.prog 38 [.agg #[I x.h.lanes, .slice q.1 x.h.shoes.length q.2], .slice g.1 g.2.2.1.length g.2.1, .slice a plan.length c] (KAnd (KHx ⟨x.h, q.1, q.2⟩) (KAnd (KGs g.1 g.2.1 g.2.2.1) (KSl a plan.length c encI plan))) (.tuple #[.slice none 0 0, I (plannedE x.h (gs xs) plan)]) := by
  have h := Short_je ⟨x.h, q.1, q.2⟩ g.1 g.2.1 g.2.2.1 a c plan (by rw [g.2.2.2]; exact h)
  rwa [g.2.2.2] at h
theorem Short_c (x : Hx) (q : QH) (xs : List Gx) (g : QG xs) (plan : List Int) (a : Option Addr) (c : Nat) (h : plannedE x.h (gs xs) plan = 0) : Cr Try.prog 38 [.agg #[I x.h.lanes, .slice q.1 x.h.shoes.length q.2], .slice g.1 g.2.2.1.length g.2.1, .slice a plan.length c] (KAnd (KHx ⟨x.h, q.1, q.2⟩) (KAnd (KGs g.1 g.2.1 g.2.2.1) (KSl a plan.length c encI plan)))
    (fun q : QH => .tuple #[.slice q.1 (shV x.h.shoes ((gs xs).zip plan) 31).length q.2, I 0]) (fun q => KSl q.1 (shV x.h.shoes ((gs xs).zip plan) 31).length q.2 encI (shV x.h.shoes ((gs xs).zip plan) 31)) := by
  have h := Short_jo ⟨x.h, q.1, q.2⟩ g.1 g.2.1 g.2.2.1 a c plan (by rw [g.2.2.2]; exact h)
  rwa [g.2.2.2] at h
theorem shod_jl (x : Hx) (a : Option Addr) (cap : Nat) (feet : List Int) : Cv Try.prog 35 [.agg #[I x.h.lanes, .slice x.a x.h.shoes.length x.c], .slice a feet.length cap] (KAnd (KHx x) (KSl a feet.length cap encI feet)) (I (shodE x.h feet)) := by
  refine Cx_of Try.func35 rfl Try.ntmps35 rfl fun w0 M0 => ?_
  refine JC_seq ?_
  refine JC_region ?_
  refine JL_step rfl rfl rfl (jo_box rfl rfl) fun b2 => ?_
  refine JL_pd rfl (det_assign rfl) ?_
  refine JL_nil ?_
  refine JE_seq ?_
  refine JC_seq ?_
  refine JC_block ?_
  refine JC_seq ?_
  refine JC_region ?_
  refine JL_dt rfl (det_loadKA rfl Try.isAgg24 Try.sizeOf24 rfl rfl) ?_
  refine JL_step rfl rfl rfl (jo_callv rfl rfl Try.call71 rfl (IsHouse_j x)) fun _ => ?_
  refine JL_pd rfl (det_not rfl) ?_
  refine JL_pd rfl (det_assign rfl) ?_
  refine JL_nil ?_
  refine JE_seq ?_
  -- stop: cond
  refine JC_cond rfl (fun h1 => ?_) (fun h1 => ?_)
  · refine JC_seq ?_
    refine JC_region ?_
    refine JL_pd rfl (det_assign rfl) ?_
    refine JL_nil ?_
    refine JE_seq ?_
    refine JC_ret ?_
    refine JE_block_ret ?_
    refine JE_seq_ret ?_
    -- stop: out
    refine JE_out (.inl rfl) () (results1 Try.results35 (res_tmp rfl)) (by unfold shodE; rw [if_pos (by simpa using h1)]) (List.Perm.refl _) (fun _ _ => trivial)
  · refine JC_seq ?_
    refine JC_region ?_
    refine JL_pd rfl (det_move rfl) ?_
    refine JL_pd rfl (det_len rfl Try.runUnderlying22) ?_
    refine JL_pd rfl (det_gtr rfl rfl) ?_
    refine JL_pd rfl (det_assign rfl) ?_
    refine JL_nil ?_
    refine JE_seq ?_
    -- stop: cond
    refine JC_if rfl (fun h2 => ?_) (fun h2 => ?_)
    · refine JC_seq ?_
      refine JC_region ?_
      refine JL_pd rfl (det_assign rfl) ?_
      refine JL_nil ?_
      refine JE_seq ?_
      refine JC_ret ?_
      refine JE_block_ret ?_
      refine JE_seq_ret ?_
      -- stop: out
      refine JE_out (.inl rfl) () (results1 Try.results35 (res_tmp rfl)) (by unfold shodE; rw [if_neg (by simpa using h1), if_pos (by omega)]) (List.Perm.refl _) (fun _ _ => trivial)
    · refine JC_seq ?_
      refine JC_region ?_
      refine JL_pd rfl (det_move rfl) ?_
      refine JL_step rfl rfl rfl (jo_callv rfl rfl Try.call72 rfl (Sized_j a cap feet)) fun _ => ?_
      refine JL_pd rfl (det_not rfl) ?_
      refine JL_pd rfl (det_assign rfl) ?_
      refine JL_nil ?_
      refine JE_seq ?_
      -- stop: cond
      refine JC_cond rfl (fun h3 => ?_) (fun h3 => ?_)
      · refine JC_seq ?_
        refine JC_region ?_
        refine JL_pd rfl (det_assign rfl) ?_
        refine JL_nil ?_
        refine JE_seq ?_
        refine JC_ret ?_
        refine JE_block_ret ?_
        refine JE_seq_ret ?_
        -- stop: out
        refine JE_out (.inl rfl) () (results1 Try.results35 (res_tmp rfl)) (by unfold shodE; rw [if_neg (by simpa using h1), if_neg (by omega), if_pos (by simpa using h3)]) (List.Perm.refl _) (fun _ _ => trivial)
      · refine JC_skip ?_
        refine JE_block ?_
        refine JE_seq ?_
        refine JC_seq ?_
        refine JC_region ?_
        refine JL_pd rfl (det_assign rfl) ?_
        refine JL_nil ?_
        refine JE_seq ?_
        refine JC_ret ?_
        -- stop: out
        refine JE_out (.inl rfl) () (results1 Try.results35 (res_tmp rfl)) (by unfold shodE; rw [if_neg (by simpa using h1), if_neg (by omega), if_neg (by simpa using h3)]) (List.Perm.refl _) (fun _ _ => trivial)
set_option maxRecDepth 100000 in
theorem served_l (x : Hx) (ga : Option Addr) (gc : Nat) (xs : List Gx) (h : fault x.h (gs xs) = 0) : Cv Try.prog 36 [.agg #[I x.h.lanes, .slice x.a x.h.shoes.length x.c], .slice ga xs.length gc] (KAnd (KHx x) (KGs ga gc xs)) (.tuple #[I (srvN x.h.lanes.toNat (gs xs)), .bool true]) := by
  have V := vld_of h
  have hgl : (gs xs).length = xs.length := List.length_map _
  have hn : xs.length ≤ 8 := by have := V.n; rwa [hgl] at this
  refine Cx_of Try.func36 rfl Try.ntmps36 rfl fun w0 M0 => ?_
  refine JC_seq ?_
  refine JC_region ?_
  refine JL_step rfl rfl rfl (jo_box rfl rfl) fun b2 => ?_
  refine JL_pd rfl (det_assign rfl) ?_
  refine JL_pd rfl (det_assign rfl) ?_
  refine JL_nil ?_
  refine JE_seq ?_
  refine JC_seq ?_
  refine JC_region ?_
  refine JL_dt rfl (det_loadKA rfl Try.isAgg24 Try.sizeOf24 rfl rfl) ?_
  refine JL_step rfl rfl rfl (jo_call rfl rfl Try.call19 rfl (lHouse_j x (by have := V.hs.n; omega))) fun x10 => ?_
  refine JL_pd rfl (det_move rfl) ?_
  refine JL_step rfl rfl rfl (jo_call rfl rfl Try.call20 rfl (lGroups_j ga gc xs (by omega) (fun y hy => by have := V.fw y.g (List.mem_map.2 ⟨y, hy, rfl⟩); omega))) fun x12 => ?_
  refine JL_step rfl rfl rfl (jo_call rfl rfl Try.call21 rfl (Serve_c x x10 xs x12 h)) fun x13 => ?_
  refine JL_pd rfl (det_move rfl) ?_
  refine JL_pd rfl (det_extract rfl rfl) ?_
  refine JL_pd rfl (det_extract rfl rfl) ?_
  refine JL_pd rfl (det_assign rfl) ?_
  refine JL_pd rfl (det_assign rfl) ?_
  refine JL_nil ?_
  refine JE_seq ?_
  refine JC_seq ?_
  refine JC_region ?_
  refine JL_pd rfl (det_move rfl) ?_
  -- stop: op  1 t17 := (call (Call (value f26) (t16) (22)))   <0>   130
  obtain ⟨pb, p, hp⟩ := x13
  have hF := serve_facts V.gr hp
  have hpn : p.length = xs.length := by rw [hF.n, hgl]
  refine JL_step rfl rfl rfl (jo_callv rfl rfl Try.call26 rfl (Served_j _ _ p (by omega))) fun _ => ?_
  refine JL_pd rfl (det_move rfl) ?_
  refine JL_pd rfl (det_eql rfl rfl) ?_
  refine JL_pd rfl (det_move rfl) ?_
  -- stop: guard 4
  refine JL_is (d0 := 20) true rfl (by rfl) (fun g1 => ?_)
  refine JL_guard rfl rfl g1 ?_
  refine JL_pd rfl (det_move rfl) ?_
  refine JL_guard rfl rfl g1 ?_
  refine JL_pd rfl (det_len rfl Try.runUnderlying22) ?_
  refine JL_guard rfl rfl g1 ?_
  refine JL_pd rfl (det_move rfl) ?_
  refine JL_guard rfl rfl g1 ?_
  refine JL_pd rfl (det_len rfl Try.runUnderlying25) ?_
  refine JL_guard rfl rfl g1 ?_
  refine JL_pd rfl (det_eql rfl rfl) ?_
  refine JL_pd rfl (det_pick_t rfl g1 rfl) ?_
  refine JL_pd rfl (det_assign rfl) ?_
  refine JL_pd rfl (det_assign rfl) ?_
  refine JL_nil ?_
  refine JE_seq ?_
  refine JC_ret ?_
  -- stop: out
  refine JE_out (.inl rfl) () (results2 Try.results36 (res_tmp rfl) (res_tmp rfl)) ?_ (List.Perm.refl _) (fun _ _ => trivial)
  (rw [srvN_of hF]; exact congrArg (fun b => Value.tuple #[I ((served p : Nat) : Int), Value.bool b]) (decide_eq_true (show (p.length : Int) = xs.length by omega)))
theorem bare_l (x : Hx) (a : Option Addr) (cap : Nat) (feet : List Int) (h : shodE x.h feet = 0) : Cv Try.prog 37 [.agg #[I x.h.lanes, .slice x.a x.h.shoes.length x.c], .slice a feet.length cap] (KAnd (KHx x) (KSl a feet.length cap encI feet)) (.tuple #[I (barN x.h.shoes feet), .bool true]) := by
  have V := vfeet_of h
  have hn := V.n
  refine Cx_of Try.func37 rfl Try.ntmps37 rfl fun w0 M0 => ?_
  refine JC_seq ?_
  refine JC_region ?_
  refine JL_step rfl rfl rfl (jo_box rfl rfl) fun b2 => ?_
  refine JL_pd rfl (det_assign rfl) ?_
  refine JL_pd rfl (det_assign rfl) ?_
  refine JL_nil ?_
  refine JE_seq ?_
  refine JC_seq ?_
  refine JC_region ?_
  refine JL_dt rfl (det_loadKA rfl Try.isAgg24 Try.sizeOf24 rfl rfl) ?_
  refine JL_step rfl rfl rfl (jo_call rfl rfl Try.call19 rfl (lHouse_j x (by have := V.hs.n; omega))) fun x10 => ?_
  refine JL_pd rfl (det_move rfl) ?_
  refine JL_step rfl rfl rfl (jo_call rfl rfl Try.call23 rfl (lList_j feet a cap (by omega))) fun x12 => ?_
  refine JL_step rfl rfl rfl (jo_call rfl rfl Try.call46 rfl (Fit_c x x10 feet x12.1 x12.2 h)) fun x13 => ?_
  refine JL_pd rfl (det_move rfl) ?_
  refine JL_pd rfl (det_extract rfl rfl) ?_
  refine JL_pd rfl (det_extract rfl rfl) ?_
  refine JL_pd rfl (det_assign rfl) ?_
  refine JL_pd rfl (det_assign rfl) ?_
  refine JL_nil ?_
  refine JE_seq ?_
  refine JC_seq ?_
  refine JC_region ?_
  refine JL_pd rfl (det_move rfl) ?_
  -- stop: op  1 t17 := (call (Call (value f51) (t16) (22)))   <0>   136
  obtain ⟨pb, p, hp⟩ := x13
  have hpn : p.length = feet.length := hp.1
  have hpb : bareI p = barN x.h.shoes feet := by
    rw [barN_of V.hs V.ft hp, bare_served hp.1 (fit_facts V.hs.n (fun s hs => (V.hs.s s hs).1) V.ft hp).fit.ok]
  have hbj := Bare_j (some ⟨pb, 0, none⟩) p.length p (by omega)
  rw [hpb] at hbj
  refine JL_step rfl rfl rfl (jo_callv rfl rfl Try.call51 rfl (hbj)) fun _ => ?_
  refine JL_pd rfl (det_move rfl) ?_
  refine JL_pd rfl (det_eql rfl rfl) ?_
  refine JL_pd rfl (det_move rfl) ?_
  -- stop: guard 4
  refine JL_is (d0 := 20) true rfl (by rfl) (fun g1 => ?_)
  refine JL_guard rfl rfl g1 ?_
  refine JL_pd rfl (det_move rfl) ?_
  refine JL_guard rfl rfl g1 ?_
  refine JL_pd rfl (det_len rfl Try.runUnderlying22) ?_
  refine JL_guard rfl rfl g1 ?_
  refine JL_pd rfl (det_move rfl) ?_
  refine JL_guard rfl rfl g1 ?_
  refine JL_pd rfl (det_len rfl Try.runUnderlying22) ?_
  refine JL_guard rfl rfl g1 ?_
  refine JL_pd rfl (det_eql rfl rfl) ?_
  refine JL_pd rfl (det_pick_t rfl g1 rfl) ?_
  refine JL_pd rfl (det_assign rfl) ?_
  refine JL_pd rfl (det_assign rfl) ?_
  refine JL_nil ?_
  refine JE_seq ?_
  refine JC_ret ?_
  -- stop: out
  refine JE_out (.inl rfl) () (results2 Try.results37 (res_tmp rfl) (res_tmp rfl)) ?_ (List.Perm.refl _) (fun _ _ => trivial)
  exact congrArg (fun b => Value.tuple #[I (barN x.h.shoes feet), Value.bool b]) (decide_eq_true (show (p.length : Int) = feet.length by omega))
set_option maxRecDepth 100000 in
theorem ints_j (a : Option Addr) (cap : Nat) (xs : List Int) (b : Option Addr) (cb : Nat) (ys : List Int) : Cv Try.prog 41 [.slice a xs.length cap, .slice b ys.length cb] (KAnd (KSl a xs.length cap encI xs) (KSl b ys.length cb encI ys)) (.bool (decide (xs = ys))) := by
  refine Cx_of Try.func41 rfl Try.ntmps41 rfl fun w0 M0 => ?_
  refine JC_seq ?_
  refine JC_region ?_
  refine JL_pd rfl (det_assign rfl) ?_
  refine JL_nil ?_
  refine JE_seq ?_
  refine JC_seq ?_
  refine JC_seq ?_
  refine JC_region ?_
  refine JL_pd rfl (det_move rfl) ?_
  refine JL_pd rfl (det_len rfl Try.runUnderlying22) ?_
  refine JL_pd rfl (det_move rfl) ?_
  refine JL_pd rfl (det_len rfl Try.runUnderlying22) ?_
  refine JL_pd rfl (det_neq rfl rfl) ?_
  refine JL_nil ?_
  refine JE_seq ?_
  -- stop: cond
  refine JC_ifn rfl (fun h1 => ?_) (fun h1 => ?_)
  · refine JC_seq ?_
    refine JC_region ?_
    refine JL_pd rfl (det_assign rfl) ?_
    refine JL_nil ?_
    refine JE_seq ?_
    refine JC_ret ?_
    refine JE_seq_ret ?_
    -- stop: out
    refine JE_out (.inl rfl) () (results1 Try.results41 (res_tmp rfl)) (by rw [decide_eq_false (fun e => h1 (by rw [e]))]) (List.Perm.refl _) (fun _ _ => trivial)
  · have hl : xs.length = ys.length := by omega
    refine JC_skip ?_
    refine JE_seq ?_
    refine JC_seq ?_
    refine JC_seq ?_
    refine JC_region ?_
    refine JL_pd rfl (det_assign rfl) ?_
    refine JL_nil ?_
    refine JE_seq ?_
    refine JC_block ?_
    -- stop: loop
    refine JC_pure (p := xs.length ≤ 9223372036854775807) (by intro w h; exact h.1.1.bd) fun hz => ?_
    refine JC_loopF (γ := Nat) (fun i => i ≤ xs.length ∧ xs.take i = ys.take i) (fun i => [(5, I i)]) (fun _ => []) (fun i => xs.length - i) 0 ⟨Nat.zero_le _, by simp⟩ (stsub_consI rfl rfl stsub_nil) ht_nil ?_
    rintro i ⟨hi, he⟩ K hK
    dsimp only [List.cons_append, List.nil_append]
    refine JC_seq ?_
    refine JC_seq ?_
    refine JC_region ?_
    refine JL_pd rfl (det_move rfl) ?_
    refine JL_pd rfl (det_move rfl) ?_
    refine JL_pd rfl (det_len rfl Try.runUnderlying22) ?_
    refine JL_pd rfl (det_lss rfl rfl) ?_
    refine JL_nil ?_
    refine JE_seq ?_
    -- stop: cond
    refine JC_if rfl (fun h2 => ?_) (fun h2 => ?_)
    · have hi2 : i < xs.length := by omega
      refine JC_skip ?_
      refine JE_seq ?_
      refine JC_seq ?_
      refine JC_block ?_
      refine JC_seq ?_
      refine JC_draw [] (by kernel_rfl) ?_
      refine JA_pd (i := 0) rfl (by kernel_rfl) rfl rfl (det_move rfl) ?_
      refine JA_pd (i := 1) rfl (by kernel_rfl) rfl rfl (det_move rfl) ?_
      refine JA_dt (i := 2) rfl (by kernel_rfl) (by kernel_rfl) rfl rfl (det_indexAddr rfl rfl (by first | rfl | omega) (by first | assumption | omega | decide) Try.runUnderlying22 Try.sizeOf3) ?_
      refine JA_dt (i := 3) rfl (by kernel_rfl) (by kernel_rfl) rfl rfl (det_loadE rfl (by first | assumption | omega | decide) Try.isAgg3 rfl rfl) ?_
      refine JA_pd (i := 4) rfl (by kernel_rfl) rfl rfl (det_move rfl) ?_
      refine JA_pd (i := 5) rfl (by kernel_rfl) rfl rfl (det_move rfl) ?_
      refine JA_dt (i := 6) rfl (by kernel_rfl) (by kernel_rfl) rfl rfl (det_indexAddr rfl rfl (by first | rfl | omega) (by first | assumption | omega | decide) Try.runUnderlying22 Try.sizeOf3) ?_
      refine JA_dt (i := 7) rfl (by kernel_rfl) (by kernel_rfl) rfl rfl (det_loadE rfl (by first | assumption | omega | decide) Try.isAgg3 rfl rfl) ?_
      refine JA_pd (i := 8) rfl (by kernel_rfl) rfl rfl (det_neq rfl rfl) ?_
      refine JA_done (by kernel_rfl) ?_
      refine JE_seq ?_
      -- stop: cond
      refine JC_ifn rfl (fun h3 => ?_) (fun h3 => ?_)
      · refine JC_seq ?_
        refine JC_region ?_
        refine JL_pd rfl (det_assign rfl) ?_
        refine JL_nil ?_
        refine JE_seq ?_
        refine JC_ret ?_
        refine JE_block_ret ?_
        refine JE_seq_ret ?_
        refine JE_then_ret ?_
        refine JE_block_ret ?_
        refine JE_seq_ret ?_
        -- stop: out
        refine JE_out (.inl rfl) () (results1 Try.results41 (res_tmp rfl)) (by rw [decide_eq_false (fun e => h3 (by subst e; rfl))]) (List.Perm.refl _) (fun _ _ => trivial)
      · refine JC_skip ?_
        refine JE_block ?_
        refine JE_seq ?_
        refine JC_region ?_
        refine JL_pd rfl (det_move rfl) ?_
        refine JL_pd rfl (det_add rfl rfl ⟨by omega, by omega⟩) ?_
        refine JL_pd rfl (det_assign rfl) ?_
        refine JL_nil ?_
        -- stop: end
        exact JE_roundF hK (i + 1) ⟨by omega, by rw [take_snoc hi2, take_snoc (show i < ys.length by omega), he, h3]⟩ (by omega) (stsub_consI rfl (by omega) stsub_nil) ht_nil
    · refine JC_exit ?_
      refine JE_seq_exit ?_
      refine JE_then_exit ?_
      refine JE_block_here ?_
      refine JE_seq ?_
      refine JC_seq ?_
      refine JC_region ?_
      refine JL_pd rfl (det_assign rfl) ?_
      refine JL_nil ?_
      refine JE_seq ?_
      refine JC_ret ?_
      -- stop: out
      obtain rfl : i = xs.length := by omega
      rw [List.take_length, hl, List.take_length] at he
      refine JE_out (.inl rfl) () (results1 Try.results41 (res_tmp rfl)) (by rw [decide_eq_true he]) (List.Perm.refl _) (fun _ _ => trivial)
end Go.Proofs.Ytkmaafnbefpdjaa

/- The reference's Ends: a grid of stands. -/
import Derived.Test.YtgbfjcgjcnndpaaC38
import Derived.Test.YtgbfjcgjcnndpaaJ25
set_option linter.unusedSimpArgs false
set_option linter.unusedVariables false
namespace Go.Proofs.Ytgbfjcgjcnndpaa
open Go.RowKit Go.Shelf

def DG (m : Mc) (log : List Int) (lost : Nat) (g : Nat → Nat → Nat → Bool) (i k : Nat) (s : Sd) : Prop := (∀ x t, log[i]? = some x → t ∈ nextL m m.locks s x → g (i + 1) k (ix t) = true) ∧ (k < lost → ∀ t, Stp m m.locks s t → g i (k + 1) (ix t) = true)
/-- What the grid holds, when all places before one are gone through. -/
structure EG (m : Mc) (log : List Int) (lost : Nat) (g : Nat → Nat → Nat → Bool) (i k : Nat) : Prop where
  sound : ∀ i' k' j, j < 24 → g i' k' j = true → EndR m log i' k' (sdOf j)
  zero : g 0 0 0 = true
  row : ∀ i', i' < i → ∀ k', k' ≤ lost → ∀ s, EndR m log i' k' s → DG m log lost g i' k' s
  col : ∀ k', k' < k → ∀ s, EndR m log i k' s → DG m log lost g i k' s
theorem EG.exact {m : Mc} {log : List Int} {lost : Nat} {g : Nat → Nat → Nat → Bool} {i k : Nat} (h : EG m log lost g i k) (hk : k ≤ lost) {j : Nat} (hj : j < 24) : g i k j = true ↔ EndR m log i k (sdOf j) := by
  refine ⟨h.sound i k j hj, fun h1 => ?_⟩
  generalize hs : sdOf j = s at h1
  have hjx : j = ix s := by rw [← hs, ix_sd]
  cases h1 with
  | zero => rw [hjx]; exact h.zero
  | log h2 hg ht => rw [hjx]; exact (h.row _ (by omega) k hk _ h2).1 _ _ hg ht
  | lost h2 hst => rw [hjx]; exact (h.col _ (by omega) _ h2).2 (by omega) _ hst
theorem EG.step {m : Mc} (V : Valid m) {log : List Int} {lost : Nat} {g g' : Nat → Nat → Nat → Bool} {i k : Nat} (h : EG m log lost g i k) (hk : k ≤ lost)
    (mono : ∀ i' k' j, j < 24 → g i' k' j = true → g' i' k' j = true)
    (snd : ∀ i' k' j, j < 24 → g' i' k' j = true → g i' k' j = true ∨ (i' = i + 1 ∧ k' = k ∧ ∃ x, log[i]? = some x ∧ behW m m.locks (g i k) x j = true) ∨ (i' = i ∧ k' = k + 1 ∧ ∃ s : Nat, s < 8 ∧ behW m m.locks (g i k) (s : Int) j = true))
    (hl : ∀ x, log[i]? = some x → ∀ j, j < 24 → behW m m.locks (g i k) x j = true → g' (i + 1) k j = true)
    (hs : k < lost → ∀ s : Nat, s < 8 → ∀ j, j < 24 → behW m m.locks (g i k) (s : Int) j = true → g' i (k + 1) j = true) : EG m log lost g' i (k + 1) := by
  refine ⟨fun i' k' j hj hh => ?_, mono _ _ _ (by decide) h.zero, fun i' h1 k' h2 s h3 => ?_, fun k' h2 s h3 => ?_⟩
  · rcases snd i' k' j hj hh with q | ⟨rfl, rfl, x, q1, q2⟩ | ⟨rfl, rfl, s, q1, q2⟩
    · exact h.sound i' k' j hj q
    · obtain ⟨u, hu, q3, q4⟩ := behW_iff.1 q2
      exact .log (h.sound _ _ u hu q3) q1 q4
    · obtain ⟨u, hu, q3, q4⟩ := behW_iff.1 q2
      exact .lost (h.sound _ _ u hu q3) ⟨s, q1, q4⟩
  · have := h.row i' h1 k' h2 s h3
    have hin := h3.inM V
    exact ⟨fun x t q1 q2 => mono _ _ _ ((next_in V hin q2).ix V).1 (this.1 x t q1 q2), fun q0 t q1 => mono _ _ _ (by obtain ⟨n, _, q2⟩ := q1; exact ((next_in V hin q2).ix V).1) (this.2 q0 t q1)⟩
  · by_cases e : k' = k
    · subst e
      have hin := (h3.inM V).ix V
      have hg : g i k' (ix s) = true := (h.exact hk hin.1).2 (by rw [hin.2]; exact h3)
      have hb : ∀ x t, t ∈ nextL m m.locks s x → behW m m.locks (g i k') x (ix t) = true ∧ ix t < 24 := fun x t ht => by
        have hti := (next_in V (h3.inM V) ht).ix V
        exact ⟨behW_iff.2 ⟨ix s, hin.1, hg, by rw [hin.2, hti.2]; exact ht⟩, hti.1⟩
      exact ⟨fun x t q1 q2 => hl x q1 _ (hb x t q2).2 (hb x t q2).1, fun q0 t ⟨n, q1, q2⟩ => hs q0 n q1 _ (hb _ t q2).2 (hb _ t q2).1⟩
    · have := h.col k' (by omega) s h3
      have hin := h3.inM V
      exact ⟨fun x t q1 q2 => mono _ _ _ ((next_in V hin q2).ix V).1 (this.1 x t q1 q2), fun q0 t q1 => mono _ _ _ (by obtain ⟨n, _, q2⟩ := q1; exact ((next_in V hin q2).ix V).1) (this.2 q0 t q1)⟩
theorem EG.rowup {m : Mc} {log : List Int} {lost : Nat} {g : Nat → Nat → Nat → Bool} {i : Nat} (h : EG m log lost g i (lost + 1)) : EG m log lost g (i + 1) 0 :=
  ⟨h.sound, h.zero, fun i' h1 k' h2 s h3 => by
    by_cases e : i' = i
    · subst e; exact h.col k' (by omega) s h3
    · exact h.row i' (by omega) k' h2 s h3, fun k' h2 => by omega⟩
/-- One place of the grid is put. -/
def gUpd (g : Nat → Nat → Nat → Bool) (i k : Nat) (w : Nat → Bool) : Nat → Nat → Nat → Bool := fun i' k' => if i' = i ∧ k' = k then w else g i' k'
theorem gUpd_at (g : Nat → Nat → Nat → Bool) (i k : Nat) (w : Nat → Bool) : gUpd g i k w i k = w := if_pos ⟨rfl, rfl⟩
theorem gUpd_ne (g : Nat → Nat → Nat → Bool) (i k : Nat) (w : Nat → Bool) {i' k' : Nat} (h : ¬ (i' = i ∧ k' = k)) : gUpd g i k w i' k' = g i' k' := if_neg h
theorem EG.begin (m : Mc) (log : List Int) (lost : Nat) : EG m log lost (gUpd (fun _ _ _ => false) 0 0 begW) 0 0 := by
  refine ⟨fun i' k' j hj h => ?_, rfl, fun _ h => by omega, fun _ h => by omega⟩
  unfold gUpd at h
  split at h
  · rename_i e
    obtain ⟨rfl, rfl⟩ := e
    have : j = 0 := of_decide_eq_true h
    subst this
    exact .zero
  · cases h
theorem gUpd_self (g : Nat → Nat → Nat → Bool) (i k : Nat) : gUpd g i k (g i k) = g := by
  funext i' k'
  unfold gUpd
  split
  · rename_i e; rw [e.1, e.2]
  · rfl
theorem gUpd_upd (g : Nat → Nat → Nat → Bool) (i k : Nat) (w w' : Nat → Bool) : gUpd (gUpd g i k w) i k w' = gUpd g i k w' := by
  funext i' k'
  unfold gUpd
  split <;> rfl
theorem ends_step {m : Mc} (V : Valid m) {log : List Int} {lost : Nat} {g0 g1 : Nat → Nat → Nat → Bool} {i k : Nat} (hE : EG m log lost g0 i k) (hk : k ≤ lost)
    (hA1 : ∀ i2 k2, ¬ (i2 = i + 1 ∧ k2 = k) → g1 i2 k2 = g0 i2 k2) (hA2 : ∀ x, log[i]? = some x → g1 (i + 1) k = uniW (g0 (i + 1) k) (behW m m.locks (g0 i k) x)) (hA3 : log[i]? = none → g1 = g0)
    {w : Nat → Bool} {n : Nat} (hn : n ≤ 8) (hw : ∀ j, j < 24 → (w j = true ↔ g1 i (k + 1) j = true ∨ ∃ s : Nat, s < n ∧ behW m m.locks (g0 i k) (s : Int) j = true)) (he : n = 8 ∨ ¬ k < lost) : EG m log lost (gUpd g1 i (k + 1) w) i (k + 1) := by
  have hm1 : ∀ i2 k2 j, g0 i2 k2 j = true → g1 i2 k2 j = true := fun i2 k2 j h => by
    by_cases e : i2 = i + 1 ∧ k2 = k
    · obtain ⟨rfl, rfl⟩ := e
      cases hx : log[i]? with
      | none => rw [hA3 hx]; exact h
      | some x => rw [hA2 x hx]; unfold uniW; rw [h]; rfl
    · rw [hA1 _ _ e]; exact h
  have hg : g1 i (k + 1) = g0 i (k + 1) := hA1 _ _ (by omega)
  refine hE.step V hk ?_ ?_ ?_ ?_
  · intro i2 k2 j hj h
    by_cases e : i2 = i ∧ k2 = k + 1
    · obtain ⟨rfl, rfl⟩ := e
      rw [gUpd_at, hw j hj, hg]
      exact .inl h
    · rw [gUpd_ne _ _ _ _ e]; exact hm1 _ _ _ h
  · intro i2 k2 j hj h
    by_cases e : i2 = i ∧ k2 = k + 1
    · obtain ⟨rfl, rfl⟩ := e
      rw [gUpd_at, hw j hj] at h
      rcases h with h | ⟨s, h1, h2⟩
      · rw [hg] at h; exact .inl h
      · exact .inr (.inr ⟨rfl, rfl, s, by omega, h2⟩)
    · rw [gUpd_ne _ _ _ _ e] at h
      by_cases e2 : i2 = i + 1 ∧ k2 = k
      · obtain ⟨rfl, rfl⟩ := e2
        cases hx : log[i]? with
        | none => rw [hA3 hx] at h; exact .inl h
        | some x =>
          rw [hA2 x hx] at h
          rcases (Bool.or_eq_true _ _).mp h with h | h
          · exact .inl h
          · exact .inr (.inl ⟨rfl, rfl, x, rfl, h⟩)
      · rw [hA1 _ _ e2] at h; exact .inl h
  · intro x hx j hj h
    rw [gUpd_ne _ _ _ _ (by omega), hA2 x hx]
    unfold uniW; rw [h, Bool.or_true]
  · intro hkl s hs j hj h
    rw [gUpd_at, hw j hj]
    rcases he with rfl | he
    · exact .inr ⟨s, hs, h⟩
    · exact absurd hkl he
def rowC (n : Nat) (g : Nat → Nat → Nat → Bool) (i : Nat) : List Value := ((List.range n).map (g i)).flatMap (encW 24)
instance : Rec (encW 24) 24 := ⟨fun w => encW_len 24 w, by decide⟩
theorem rowC_len (n : Nat) (g : Nat → Nat → Nat → Bool) (i : Nat) : (rowC n g i).length = n * 24 := by
  unfold rowC
  rw [flat_len, List.length_map, List.length_range]
theorem rowC_get (n : Nat) (g : Nat → Nat → Nat → Bool) (i k : Nat) (hk : k < n) : ((rowC n g i).drop (k * 24)).take 24 = encW 24 (g i k) := by
  unfold rowC
  rw [flat_rec (encW 24) _ k (by simpa using hk)]
  simp
theorem rowC_set (n : Nat) (g : Nat → Nat → Nat → Bool) (i k : Nat) (w : Nat → Bool) (hk : k < n) : splice (rowC n g i) (k * 24) (encW 24 w) = rowC n (gUpd g i k w) i := by
  unfold rowC
  rw [splice_rec (encW 24) _ k w (by simpa using hk)]
  congr 1
  refine List.ext_getElem (by simp) fun j h1 h2 => ?_
  simp only [List.length_set, List.length_map, List.length_range] at h1
  rw [List.getElem_set]
  by_cases e : k = j
  · subst e; rw [if_pos rfl]; simp [gUpd_at]
  · rw [if_neg e]; simp only [List.getElem_map, List.getElem_range]; rw [gUpd_ne _ _ _ _ (by omega)]
theorem rowC_other (n : Nat) (g : Nat → Nat → Nat → Bool) (i k : Nat) (w : Nat → Bool) {i' : Nat} (h : i' ≠ i) : rowC n g i' = rowC n (gUpd g i k w) i' := by
  unfold rowC
  congr 1
  exact List.map_congr_left fun k' _ => by rw [gUpd_ne _ _ _ _ (by omega)]
theorem made_all (zs : Array Value) (v : Value) (n : Nat) (h0 : 0 < zs.size) (h : ∀ i, i < zs.size → zs[i]! = v) : (madeCells zs n).toList = List.replicate n v := by
  refine List.ext_getElem (by simp [madeCells]) fun j h1 h2 => ?_
  simp only [madeCells, Array.getElem_toList, Array.getElem_map, Array.getElem_range, List.getElem_replicate]
  exact h _ (Nat.mod_lt _ h0)
theorem rowC_zero (n : Nat) (i : Nat) : List.replicate (n * 24) (Value.bool false) = rowC n (fun _ _ _ => false) i := by
  have hz : encW 24 (fun _ => false) = List.replicate 24 (Value.bool false) := rfl
  unfold rowC
  induction n with
  | zero => rfl
  | succ n ih =>
    rw [List.range_succ, List.map_append, List.flatMap_append, ← ih, List.map_cons, List.map_nil, List.flatMap_cons, List.flatMap_nil, List.append_nil, hz, List.replicate_append_replicate, Nat.add_mul, Nat.one_mul]
def encRow (n : Nat) (b : Nat) : List Value := [.slice (some ⟨b, 0, none⟩) n n]
instance (n : Nat) : Rec (encRow n) 1 := ⟨fun _ => rfl, by decide⟩
set_option maxRecDepth 100000 in
set_option maxHeartbeats 2000000 in
theorem REnds_j (m : Mc) (a : MA) (log : List Int) (sa : Option Addr) (sc lost : Nat) (V : Valid m) (hll : log.length ≤ 20) (hlo : lost ≤ 5) (hlog : ∀ g ∈ log, 0 ≤ g ∧ g ≤ 7) : Cv Try.prog 37 [.agg #[I m.states, .slice a.sa m.steps.length a.sc, .slice a.ra m.running.length a.rc, .slice a.ka m.locks.length a.kc], .slice sa log.length sc, I lost] (KAnd (KMc m a) (KSl sa log.length sc encI log)) (evB (endsW m log lost)) := by
  have hnl := V.nl
  have hm1 : (madeCells (Value.slice none 0 0).cells ((log.length + 1) * 1)).toList = List.replicate (log.length + 1) (Value.slice none 0 0) := by
    rw [Nat.mul_one]; exact made_all _ _ _ (by decide) (by intro i hi; have : i = 0 := by simpa [Value.cells] using hi
                                                           subst this; rfl)
  have hm2 : ∀ i, (madeCells (Value.agg (List.replicate 24 (Value.bool false)).toArray).cells ((lost + 1) * 24)).toList = rowC (lost + 1) (fun _ _ _ => false) i := fun i => by
    rw [← rowC_zero]
    exact made_all _ _ _ (by decide) fun i hi => by
      have h24 : i < 24 := by simpa [Value.cells] using hi
      rw [show (Value.agg (List.replicate 24 (Value.bool false)).toArray).cells = (List.replicate 24 (Value.bool false)).toArray from rfl]
      rw [getElem!_pos _ i (by simpa using h24), List.getElem_toArray, List.getElem_replicate]
  refine Cx_of Try.func37 rfl Try.ntmps37 rfl fun w0 M0 => ?_
  refine JC_seq ?_
  refine JC_region ?_
  refine JL_step rfl rfl rfl (jo_box rfl rfl) fun b3 => ?_
  refine JL_step rfl rfl rfl (jo_alloc0 Try.zeroValue45 rfl) fun b6 => ?_
  refine JL_nil ?_
  refine JE_seq ?_
  refine JC_seq ?_
  refine JC_region ?_
  refine JL_pd rfl (det_move rfl) ?_
  refine JL_pd rfl (det_len rfl Try.runUnderlying23) ?_
  refine JL_pd rfl (det_add rfl rfl ⟨by omega, by omega⟩) ?_
  -- stop: op  3 t16 := (makeSlice 124 t15 t15)   <2 2>   284
  refine JL_step rfl rfl rfl (jo_makeSlice (n := log.length + 1) (zv := .slice none 0 0) (z := 1) (bytes := 24) rfl rfl (by omega) Try.underlying124 (by kernel_rfl) (by omega) (by omega)) fun b16 => ?_
  refine JL_pd rfl (det_assign rfl) ?_
  refine JL_nil ?_
  refine JE_seq ?_
  refine JC_seq ?_
  refine JC_seq ?_
  refine JC_region ?_
  refine JL_pd rfl (det_assign rfl) ?_
  refine JL_nil ?_
  refine JE_seq ?_
  refine JC_block ?_
  -- stop: loop
  refine JC_keep b3 noFp ?_
  refine JC_grd0 (rowC (lost + 1) fun _ _ _ => false) ?_
  refine JC_loopF (γ := Nat × List Nat) (fun q => q.1 ≤ log.length + 1 ∧ q.2.length = q.1) (fun q => [(8, I q.1)]) (fun q => [ow (.slice (some ⟨b16, 0, none⟩) (log.length + 1) (log.length + 1)) 125 1 (log.length + 1) (q.2.flatMap (encRow (lost + 1)) ++ List.replicate (log.length + 1 - q.1) (Value.slice none 0 0)), grd q.2 (rowC (lost + 1) fun _ _ _ => false)]) (fun q => log.length + 1 - q.1) (0, []) ⟨Nat.zero_le _, rfl⟩ (stsub_consI rfl rfl stsub_nil) (ht_ow rfl hm1 (ht_cons ht_nil)) ?_
  rintro ⟨i, bs⟩ ⟨hi, hbl⟩ K hK
  dsimp only [List.cons_append, List.nil_append] at hi hbl ⊢
  refine JC_seq ?_
  refine JC_seq ?_
  refine JC_region ?_
  refine JL_pd rfl (det_move rfl) ?_
  refine JL_pd rfl (det_move rfl) ?_
  refine JL_pd rfl (det_len rfl Try.runUnderlying23) ?_
  refine JL_pd rfl (det_leq rfl rfl) ?_
  refine JL_nil ?_
  refine JE_seq ?_
  -- stop: cond
  refine JC_if rfl (fun h1 => ?_) (fun h1 => ?_)
  · have hi2 : i ≤ log.length := by omega
    have hsp : ∀ b, splice (bs.flatMap (encRow (lost + 1)) ++ List.replicate (log.length + 1 - i) (Value.slice none 0 0)) (i * 1) [Value.slice (some ⟨b, 0, none⟩) (lost + 1) (lost + 1)] = (bs ++ [b]).flatMap (encRow (lost + 1)) ++ List.replicate (log.length + 1 - (i + 1)) (Value.slice none 0 0) := fun b => by
      rw [show log.length + 1 - i = (log.length + 1 - (i + 1)) + 1 by omega, List.replicate_succ, show i * 1 = (bs.flatMap (encRow (lost + 1))).length by rw [flat_len, hbl]]
      rw [show bs.flatMap (encRow (lost + 1)) ++ Value.slice none 0 0 :: List.replicate (log.length + 1 - (i + 1)) (Value.slice none 0 0) = bs.flatMap (encRow (lost + 1)) ++ [Value.slice none 0 0] ++ List.replicate (log.length + 1 - (i + 1)) (Value.slice none 0 0) by simp]
      rw [splice_at [Value.slice (some ⟨b, 0, none⟩) (lost + 1) (lost + 1)] (bs.flatMap (encRow (lost + 1))) [Value.slice none 0 0] _ rfl, List.flatMap_append]
      rfl
    have hol : i * 1 + 1 ≤ (bs.flatMap (encRow (lost + 1)) ++ List.replicate (log.length + 1 - i) (Value.slice none 0 0)).length := by rw [List.length_append, flat_len, List.length_replicate, hbl]; omega
    refine JC_skip ?_
    refine JE_seq ?_
    refine JC_seq ?_
    refine JC_block ?_
    refine JC_region ?_
    refine JL_pd rfl (det_move rfl) ?_
    refine JL_pd rfl (det_move rfl) ?_
    refine JL_pd rfl (det_move rfl) ?_
    refine JL_pd rfl (det_add rfl rfl ⟨by omega, by omega⟩) ?_
    refine JL_step rfl rfl rfl (jo_makeSlice (n := lost + 1) (zv := .agg (List.replicate 24 (Value.bool false)).toArray) (z := 24) (bytes := 24) rfl rfl (by omega) Try.underlying125 (by kernel_rfl) (by omega) (by omega)) fun b27 => ?_
    refine JL_pd rfl (det_indexOwn (i := i) rfl rfl rfl (by omega) Try.runUnderlying124 Try.sizeOf125) ?_
    refine JL_step0 rfl rfl (jo_storeO rfl rfl rfl (hsp _) Try.sizeOf125 hol rfl) fun _ => ?_
    refine JL_nil ?_
    refine JE_block ?_
    refine JE_seq ?_
    refine JC_region ?_
    refine JL_pd rfl (det_move rfl) ?_
    refine JL_pd rfl (det_add rfl rfl ⟨by omega, by omega⟩) ?_
    refine JL_pd rfl (det_assign rfl) ?_
    refine JL_nil ?_
    -- stop: end
    refine JE_grdAdd b27 (rowC (lost + 1) fun _ _ _ => false) (fun _ _ => rfl) (hm2 _) ?_
    refine JE_roundF hK (i + 1, bs ++ [b27]) ⟨by simp only; omega, by simp only [List.length_append, List.length_singleton, hbl]⟩ (by simp only; omega) (stsub_consI rfl (by simp only; omega) stsub_nil) (ht_ow rfl rfl (ht_cons ht_nil))
  · obtain rfl : i = log.length + 1 := by omega
    refine JC_slice (enc := encRow (lost + 1)) (v := .slice (some ⟨b16, 0, none⟩) (log.length + 1) (log.length + 1)) bs noFp (by simp) hbl.symm ?_
    rintro av cv hv
    cases hv
    rw [← hbl]
    refine JC_exit ?_
    refine JE_seq_exit ?_
    refine JE_then_exit ?_
    refine JE_block_here ?_
    refine JE_seq ?_
    refine JC_seq ?_
    refine JC_draw [5] (by kernel_rfl) ?_
    refine JA_pd (i := 0) rfl (by kernel_rfl) rfl rfl (det_move rfl) ?_
    refine JA_dt (i := 1) rfl (by kernel_rfl) (by kernel_rfl) rfl rfl (det_indexAddr (i := 0) rfl rfl (by first | rfl | omega) (by first | assumption | omega | decide) Try.runUnderlying124 Try.sizeOf125) ?_
    refine JA_dt (i := 2) rfl (by kernel_rfl) (by kernel_rfl) rfl rfl (det_loadE rfl (by first | assumption | omega | decide) Try.isAgg125 rfl rfl) ?_
    refine JA_one (i := 3) (by kernel_rfl) rfl rfl (jo_callv rfl rfl Try.call47 rfl (Begin_j)) (fun _ => ⟨hsub_refl, fun _ h => h⟩) fun _ => ?_
    refine JA_pd (i := 4) rfl (by kernel_rfl) rfl rfl (det_indexOwn (i := 0) rfl rfl (by omega) (by omega) Try.runUnderlying125 Try.sizeOf45) ?_
    refine JA_tail (i := 5) (by kernel_rfl) rfl rfl rfl rfl (jo_storeG (vs := encW 24 (begW)) 0 (rowC (lost + 1) (gUpd (fun _ _ _ => false) 0 0 (begW))) rfl rfl rfl (List.getElem?_eq_getElem (by omega)) (rowC_set _ _ _ _ _ (by omega)) (fun j hj _ => rowC_other _ _ _ _ _ hj) Try.sizeOf45 (by rw [encW_len, rowC_len]; omega) (encW_cells 24 _)) fun _ => ?_
    refine JT_done (by kernel_rfl) ?_
    refine JE_seq ?_
    refine JC_seq ?_
    refine JC_region ?_
    refine JL_step rfl rfl rfl (jo_alloc0 Try.zeroValue45 rfl) fun b9 => ?_
    refine JL_nil ?_
    refine JE_seq ?_
    refine JC_seq ?_
    refine JC_seq ?_
    refine JC_region ?_
    refine JL_pd rfl (det_assign rfl) ?_
    refine JL_nil ?_
    refine JE_seq ?_
    refine JC_block ?_
    -- stop: loop
    refine JC_loopF (γ := Nat × (Nat → Nat → Nat → Bool) × (Nat → Bool)) (fun q => q.1 ≤ log.length + 1 ∧ EG m log lost q.2.1 q.1 0 ∧ ∀ j, j < 24 → (q.2.2 j = true ↔ q.1 = log.length + 1 ∧ ∃ k, k ≤ lost ∧ EndR m log log.length k (sdOf j))) (fun q => [(10, I q.1)]) (fun q => [grd bs (rowC (lost + 1) q.2.1), bx b9 (encW 24 q.2.2), bx b6 (encW 24 fun _ => false)]) (fun q => log.length + 1 - q.1) (0, gUpd (fun _ _ _ => false) 0 0 begW, fun _ => false) ⟨Nat.zero_le _, EG.begin m log lost, fun j _ => ⟨(fun h => by cases h), fun h => by have := h.1; omega⟩⟩ (stsub_consI rfl rfl stsub_nil) (ht_cons (ht_bx rfl (ht_bx rfl ht_nil))) ?_
    rintro ⟨i, g, out⟩ ⟨hi, hE, hO⟩ K hK
    dsimp only [List.cons_append, List.nil_append] at hi hE hO ⊢
    refine JC_seq ?_
    refine JC_seq ?_
    refine JC_region ?_
    refine JL_pd rfl (det_move rfl) ?_
    refine JL_pd rfl (det_move rfl) ?_
    refine JL_pd rfl (det_len rfl Try.runUnderlying23) ?_
    refine JL_pd rfl (det_leq rfl rfl) ?_
    refine JL_nil ?_
    refine JE_seq ?_
    -- stop: cond
    refine JC_if rfl (fun h2 => ?_) (fun h2 => ?_)
    · have hi2 : i ≤ log.length := by omega
      refine JC_skip ?_
      refine JE_seq ?_
      refine JC_seq ?_
      refine JC_block ?_
      refine JC_seq ?_
      refine JC_region ?_
      refine JL_pd rfl (det_assign rfl) ?_
      refine JL_nil ?_
      refine JE_seq ?_
      refine JC_block ?_
      -- stop: loop
      refine JC_loopF (γ := Nat × (Nat → Nat → Nat → Bool) × (Nat → Bool)) (fun q => q.1 ≤ lost + 1 ∧ EG m log lost q.2.1 i q.1 ∧ ∀ j, j < 24 → (q.2.2 j = true ↔ i = log.length ∧ ∃ k, k < q.1 ∧ EndR m log log.length k (sdOf j))) (fun q => [(11, I q.1)]) (fun q => [grd bs (rowC (lost + 1) q.2.1), bx b9 (encW 24 q.2.2), bx b6 (encW 24 fun _ => false)]) (fun q => lost + 1 - q.1) (0, g, out) ⟨Nat.zero_le _, hE, fun j hj => ⟨(fun h => by have := ((hO j hj).1 h).1; omega), fun h => by obtain ⟨_, k, h, _⟩ := h; omega⟩⟩ (stsub_consI rfl rfl stsub_nil) (ht_cons (ht_cons (ht_cons ht_nil))) ?_
      rintro ⟨k, g0, o2⟩ ⟨hk, hE0, hO0⟩ K2 hK2
      dsimp only [List.cons_append, List.nil_append] at hk hE0 hO0 ⊢
      refine JC_seq ?_
      refine JC_seq ?_
      refine JC_region ?_
      refine JL_pd rfl (det_move rfl) ?_
      refine JL_pd rfl (det_move rfl) ?_
      refine JL_pd rfl (det_leq rfl rfl) ?_
      refine JL_nil ?_
      refine JE_seq ?_
      -- stop: cond
      refine JC_if rfl (fun h3 => ?_) (fun h3 => ?_)
      · have hk2 : k ≤ lost := by omega
        have hwin : WIn m (g0 i k) := fun j hj h => (hE0.sound i k j hj h).inM V
        refine JC_skip ?_
        refine JE_seq ?_
        refine JC_seq ?_
        refine JC_block ?_
        refine JC_seq ?_
        refine JC_seq ?_
        refine JC_region ?_
        refine JL_pd rfl (det_move rfl) ?_
        refine JL_pd rfl (det_move rfl) ?_
        refine JL_pd rfl (det_len rfl Try.runUnderlying23) ?_
        refine JL_pd rfl (det_lss rfl rfl) ?_
        refine JL_nil ?_
        refine JE_seq ?_
        -- stop: cond
        refine JC_cutF (γ := Nat → Nat → Nat → Bool) (fun g1 => (∀ i2 k2, ¬ (i2 = i + 1 ∧ k2 = k) → g1 i2 k2 = g0 i2 k2) ∧ (∀ x, log[i]? = some x → g1 (i + 1) k = uniW (g0 (i + 1) k) (behW m m.locks (g0 i k) x)) ∧ (log[i]? = none → g1 = g0)) (fun _ => []) (fun g1 => [grd bs (rowC (lost + 1) g1), bx b9 (encW 24 o2), bx b6 (encW 24 fun _ => false)]) [] ?_ ?_
        · intro K3 hK3
          -- stop: cond
          refine JC_if rfl (fun h4 => ?_) (fun h4 => ?_)
          · have hi3 : i < log.length := by omega
            have hlg := hlog _ (List.getElem_mem hi3)
            have hgx := List.getElem?_eq_getElem hi3
            refine JC_draw [31] (by kernel_rfl) ?_
            refine JA_pd (i := 0) rfl (by kernel_rfl) rfl rfl (det_move rfl) ?_
            refine JA_pd (i := 1) rfl (by kernel_rfl) rfl rfl (det_move rfl) ?_
            refine JA_pd (i := 2) rfl (by kernel_rfl) rfl rfl (det_add rfl rfl ⟨by omega, by omega⟩) ?_
            refine JA_dt (i := 3) rfl (by kernel_rfl) (by kernel_rfl) rfl rfl (det_indexAddr (i := i + 1) rfl rfl (by omega) (by omega) Try.runUnderlying124 Try.sizeOf125) ?_
            refine JA_dt (i := 4) rfl (by kernel_rfl) (by kernel_rfl) rfl rfl (det_loadE rfl (by first | assumption | omega | decide) Try.isAgg125 rfl rfl) ?_
            refine JA_pd (i := 5) rfl (by kernel_rfl) rfl rfl (det_move rfl) ?_
            refine JA_pd (i := 6) rfl (by kernel_rfl) rfl rfl (det_move rfl) ?_
            refine JA_pd (i := 7) rfl (by kernel_rfl) rfl rfl (det_move rfl) ?_
            refine JA_pd (i := 8) rfl (by kernel_rfl) rfl rfl (det_add rfl rfl ⟨by omega, by omega⟩) ?_
            refine JA_dt (i := 9) rfl (by kernel_rfl) (by kernel_rfl) rfl rfl (det_indexAddr (i := i + 1) rfl rfl (by omega) (by omega) Try.runUnderlying124 Try.sizeOf125) ?_
            refine JA_dt (i := 10) rfl (by kernel_rfl) (by kernel_rfl) rfl rfl (det_loadE rfl (by first | assumption | omega | decide) Try.isAgg125 rfl rfl) ?_
            refine JA_pd (i := 11) rfl (by kernel_rfl) rfl rfl (det_move rfl) ?_
            refine JA_pd (i := 12) rfl (by kernel_rfl) rfl rfl (det_indexOwn (i := k) rfl rfl (by omega) (by omega) Try.runUnderlying125 Try.sizeOf45) ?_
            refine JA_dt (i := 13) rfl (by kernel_rfl) (by kernel_rfl) rfl rfl (det_loadG (i + 1) (vs := encW 24 (g0 (i + 1) k)) rfl (List.getElem?_eq_getElem (by omega)) Try.isAgg45 Try.sizeOf45 (rowC_get _ _ _ _ (by omega)) (encW_len 24 _)) ?_
            refine JA_dt (i := 14) rfl (by kernel_rfl) (by kernel_rfl) rfl rfl (det_loadKA rfl Try.isAgg26 Try.sizeOf26 rfl rfl) ?_
            refine JA_pd (i := 15) rfl (by kernel_rfl) rfl rfl (det_fieldAddr rfl fo_26_3) ?_
            refine JA_dt (i := 16) rfl (by kernel_rfl) (by kernel_rfl) rfl rfl (det_loadK rfl Try.isAgg24 rfl) ?_
            refine JA_pd (i := 17) rfl (by kernel_rfl) rfl rfl (det_move rfl) ?_
            refine JA_pd (i := 18) rfl (by kernel_rfl) rfl rfl (det_move rfl) ?_
            refine JA_dt (i := 19) rfl (by kernel_rfl) (by kernel_rfl) rfl rfl (det_indexAddr (i := i) rfl rfl (by omega) (by omega) Try.runUnderlying124 Try.sizeOf125) ?_
            refine JA_dt (i := 20) rfl (by kernel_rfl) (by kernel_rfl) rfl rfl (det_loadE rfl (by first | assumption | omega | decide) Try.isAgg125 rfl rfl) ?_
            refine JA_pd (i := 21) rfl (by kernel_rfl) rfl rfl (det_move rfl) ?_
            refine JA_pd (i := 22) rfl (by kernel_rfl) rfl rfl (det_indexOwn (i := k) rfl rfl (by omega) (by omega) Try.runUnderlying125 Try.sizeOf45) ?_
            refine JA_dt (i := 23) rfl (by kernel_rfl) (by kernel_rfl) rfl rfl (det_loadG i (vs := encW 24 (g0 i k)) rfl (List.getElem?_eq_getElem (by omega)) Try.isAgg45 Try.sizeOf45 (rowC_get _ _ _ _ (by omega)) (encW_len 24 _)) ?_
            refine JA_pd (i := 24) rfl (by kernel_rfl) rfl rfl (det_move rfl) ?_
            refine JA_pd (i := 25) rfl (by kernel_rfl) rfl rfl (det_move rfl) ?_
            refine JA_dt (i := 26) rfl (by kernel_rfl) (by kernel_rfl) rfl rfl (det_indexAddr rfl rfl (by first | rfl | omega) (by first | assumption | omega | decide) Try.runUnderlying23 Try.sizeOf3) ?_
            refine JA_dt (i := 27) rfl (by kernel_rfl) (by kernel_rfl) rfl rfl (det_loadE rfl (by first | assumption | omega | decide) Try.isAgg3 rfl rfl) ?_
            refine JA_one (i := 28) (by kernel_rfl) rfl rfl (jo_callv rfl rfl Try.call48 rfl (Behind_j m a m.locks a.ka a.kc (g0 i k) log[i] V (by omega) hwin (.inl (by omega)))) (fun _ => ⟨hsub_refl, fun _ h => h⟩) fun _ => ?_
            refine JA_one (i := 29) (by kernel_rfl) rfl rfl (jo_callv rfl rfl Try.call62 rfl (Union_j _ _)) (fun _ => ⟨hsub_refl, fun _ h => h⟩) fun _ => ?_
            refine JA_pd (i := 30) rfl (by kernel_rfl) rfl rfl (det_indexOwn (i := k) rfl rfl (by omega) (by omega) Try.runUnderlying125 Try.sizeOf45) ?_
            refine JA_tail (i := 31) (by kernel_rfl) rfl rfl rfl rfl (jo_storeG (vs := encW 24 (uniW (g0 (i + 1) k) (behW m m.locks (g0 i k) log[i]))) (i + 1) (rowC (lost + 1) (gUpd g0 (i + 1) k (uniW (g0 (i + 1) k) (behW m m.locks (g0 i k) log[i])))) rfl rfl rfl (List.getElem?_eq_getElem (by omega)) (rowC_set _ _ _ _ _ (by omega)) (fun j hj _ => rowC_other _ _ _ _ _ hj) Try.sizeOf45 (by rw [encW_len, rowC_len]; omega) (encW_cells 24 _)) fun _ => ?_
            refine JT_done (by kernel_rfl) ?_
            -- stop: end
            refine JE_cutF hK3 (gUpd g0 (i + 1) k (uniW (g0 (i + 1) k) (behW m m.locks (g0 i k) log[i]))) ⟨fun i2 k2 h => gUpd_ne _ _ _ _ h, fun x hx => ?_, fun hx => by rw [hgx] at hx; cases hx⟩ stsub_nil (ht_cons (ht_cons (ht_cons ht_nil)))
            rw [hgx] at hx
            cases hx
            exact gUpd_at _ _ _ _
          · have hgx : log[i]? = none := List.getElem?_eq_none (by omega)
            refine JC_skip ?_
            -- stop: end
            refine JE_cutF hK3 g0 ⟨fun _ _ _ => rfl, fun x hx => (by rw [hgx] at hx; cases hx), fun _ => rfl⟩ stsub_nil (ht_cons (ht_cons (ht_cons ht_nil)))
        · rintro g1 ⟨hA1, hA2, hA3⟩
          dsimp only [List.cons_append, List.nil_append]
          refine JC_seq ?_
          refine JC_seq ?_
          refine JC_region ?_
          refine JL_pd rfl (det_assign rfl) ?_
          refine JL_nil ?_
          refine JE_seq ?_
          -- stop: block
          have hg1 : g1 i k = g0 i k := hA1 _ _ (by omega)
          have hst := fun w n hn hw he => ends_step V hE0 hk2 hA1 hA2 hA3 (w := w) (n := n) hn hw he
          refine JC_cutF (γ := (Nat → Nat → Nat → Bool) × Nat) (fun q => EG m log lost q.1 i (k + 1) ∧ q.1 i k = g0 i k) (fun q => [(12, I q.2)]) (fun q => [grd bs (rowC (lost + 1) q.1), bx b9 (encW 24 o2), bx b6 (encW 24 fun _ => false)]) [] ?_ ?_
          · intro K3 hK3
            refine JC_block ?_
            -- stop: loop
            refine JC_loopF (γ := Nat × (Nat → Bool)) (fun q => q.1 ≤ 8 ∧ (¬ k < lost → q.1 = 0) ∧ ∀ j, j < 24 → (q.2 j = true ↔ g1 i (k + 1) j = true ∨ ∃ s : Nat, s < q.1 ∧ behW m m.locks (g0 i k) (s : Int) j = true)) (fun q => [(12, I q.1)]) (fun q => [grd bs (rowC (lost + 1) (gUpd g1 i (k + 1) q.2)), bx b9 (encW 24 o2), bx b6 (encW 24 fun _ => false)]) (fun q => 8 - q.1) (0, g1 i (k + 1)) ⟨Nat.zero_le _, fun _ => rfl, fun j _ => ⟨fun h => .inl h, fun h => h.elim id fun ⟨s, hs, _⟩ => by omega⟩⟩ (stsub_consI rfl rfl stsub_nil) (ht_grd (fun _ _ => by rw [gUpd_self]) (ht_cons (ht_cons ht_nil))) ?_
            rintro ⟨n, w⟩ ⟨hn, hn0, hw⟩ K4 hK4
            dsimp only [List.cons_append, List.nil_append] at hn hn0 hw ⊢
            have hgk : gUpd g1 i (k + 1) w i k = g0 i k := by rw [gUpd_ne _ _ _ _ (by omega), hg1]
            refine JC_seq ?_
            refine JC_seq ?_
            refine JC_region ?_
            refine JL_pd rfl (det_move rfl) ?_
            refine JL_pd rfl (det_leq rfl rfl) ?_
            refine JL_pd rfl (det_move rfl) ?_
            -- stop: guard 2
            refine JL_split (d0 := 82) rfl (fun k5 => ?_) (fun k5 => ?_)
            · have hn7 : n ≤ 7 := by have := of_decide_eq_true k5; omega
              refine JL_guard rfl rfl k5 ?_
              refine JL_pd rfl (det_move rfl) ?_
              refine JL_guard rfl rfl k5 ?_
              refine JL_pd rfl (det_move rfl) ?_
              refine JL_guard rfl rfl k5 ?_
              refine JL_pd rfl (det_lss rfl rfl) ?_
              refine JL_pd rfl (det_pick_t rfl k5 rfl) ?_
              refine JL_nil ?_
              refine JE_seq ?_
              -- stop: cond
              refine JC_cond rfl (fun h6 => ?_) (fun h6 => ?_)
              · have hkl : k < lost := by have := of_decide_eq_true h6; omega
                refine JC_skip ?_
                refine JE_seq ?_
                refine JC_seq ?_
                refine JC_block ?_
                refine JC_draw [28] (by kernel_rfl) ?_
                refine JA_pd (i := 0) rfl (by kernel_rfl) rfl rfl (det_move rfl) ?_
                refine JA_pd (i := 1) rfl (by kernel_rfl) rfl rfl (det_move rfl) ?_
                refine JA_dt (i := 2) rfl (by kernel_rfl) (by kernel_rfl) rfl rfl (det_indexAddr (i := i) rfl rfl (by omega) (by omega) Try.runUnderlying124 Try.sizeOf125) ?_
                refine JA_dt (i := 3) rfl (by kernel_rfl) (by kernel_rfl) rfl rfl (det_loadE rfl (by first | assumption | omega | decide) Try.isAgg125 rfl rfl) ?_
                refine JA_pd (i := 4) rfl (by kernel_rfl) rfl rfl (det_move rfl) ?_
                refine JA_pd (i := 5) rfl (by kernel_rfl) rfl rfl (det_add rfl rfl ⟨by omega, by omega⟩) ?_
                refine JA_pd (i := 6) rfl (by kernel_rfl) rfl rfl (det_move rfl) ?_
                refine JA_pd (i := 7) rfl (by kernel_rfl) rfl rfl (det_move rfl) ?_
                refine JA_dt (i := 8) rfl (by kernel_rfl) (by kernel_rfl) rfl rfl (det_indexAddr (i := i) rfl rfl (by omega) (by omega) Try.runUnderlying124 Try.sizeOf125) ?_
                refine JA_dt (i := 9) rfl (by kernel_rfl) (by kernel_rfl) rfl rfl (det_loadE rfl (by first | assumption | omega | decide) Try.isAgg125 rfl rfl) ?_
                refine JA_pd (i := 10) rfl (by kernel_rfl) rfl rfl (det_move rfl) ?_
                refine JA_pd (i := 11) rfl (by kernel_rfl) rfl rfl (det_add rfl rfl ⟨by omega, by omega⟩) ?_
                refine JA_pd (i := 12) rfl (by kernel_rfl) rfl rfl (det_indexOwn (i := k + 1) rfl rfl (by omega) (by omega) Try.runUnderlying125 Try.sizeOf45) ?_
                refine JA_dt (i := 13) rfl (by kernel_rfl) (by kernel_rfl) rfl rfl (det_loadG i (vs := encW 24 w) rfl (List.getElem?_eq_getElem (by omega)) Try.isAgg45 Try.sizeOf45 (by rw [rowC_get _ _ _ _ (by omega), gUpd_at]) (encW_len 24 _)) ?_
                refine JA_dt (i := 14) rfl (by kernel_rfl) (by kernel_rfl) rfl rfl (det_loadKA rfl Try.isAgg26 Try.sizeOf26 rfl rfl) ?_
                refine JA_pd (i := 15) rfl (by kernel_rfl) rfl rfl (det_fieldAddr rfl fo_26_3) ?_
                refine JA_dt (i := 16) rfl (by kernel_rfl) (by kernel_rfl) rfl rfl (det_loadK rfl Try.isAgg24 rfl) ?_
                refine JA_pd (i := 17) rfl (by kernel_rfl) rfl rfl (det_move rfl) ?_
                refine JA_pd (i := 18) rfl (by kernel_rfl) rfl rfl (det_move rfl) ?_
                refine JA_dt (i := 19) rfl (by kernel_rfl) (by kernel_rfl) rfl rfl (det_indexAddr (i := i) rfl rfl (by omega) (by omega) Try.runUnderlying124 Try.sizeOf125) ?_
                refine JA_dt (i := 20) rfl (by kernel_rfl) (by kernel_rfl) rfl rfl (det_loadE rfl (by first | assumption | omega | decide) Try.isAgg125 rfl rfl) ?_
                refine JA_pd (i := 21) rfl (by kernel_rfl) rfl rfl (det_move rfl) ?_
                refine JA_pd (i := 22) rfl (by kernel_rfl) rfl rfl (det_indexOwn (i := k) rfl rfl (by omega) (by omega) Try.runUnderlying125 Try.sizeOf45) ?_
                refine JA_dt (i := 23) rfl (by kernel_rfl) (by kernel_rfl) rfl rfl (det_loadG i (vs := encW 24 (g0 i k)) rfl (List.getElem?_eq_getElem (by omega)) Try.isAgg45 Try.sizeOf45 (by rw [rowC_get _ _ _ _ (by omega), hgk]) (encW_len 24 _)) ?_
                refine JA_pd (i := 24) rfl (by kernel_rfl) rfl rfl (det_move rfl) ?_
                refine JA_one (i := 25) (by kernel_rfl) rfl rfl (jo_callv rfl rfl Try.call48 rfl (Behind_j m a m.locks a.ka a.kc (g0 i k) (n : Int) V (by omega) hwin (.inl (by omega)))) (fun _ => ⟨hsub_refl, fun _ h => h⟩) fun _ => ?_
                refine JA_one (i := 26) (by kernel_rfl) rfl rfl (jo_callv rfl rfl Try.call62 rfl (Union_j _ _)) (fun _ => ⟨hsub_refl, fun _ h => h⟩) fun _ => ?_
                refine JA_pd (i := 27) rfl (by kernel_rfl) rfl rfl (det_indexOwn (i := k + 1) rfl rfl (by omega) (by omega) Try.runUnderlying125 Try.sizeOf45) ?_
                refine JA_tail (i := 28) (by kernel_rfl) rfl rfl rfl rfl (jo_storeG (vs := encW 24 (uniW w (behW m m.locks (g0 i k) (n : Int)))) i (rowC (lost + 1) (gUpd g1 i (k + 1) (uniW w (behW m m.locks (g0 i k) (n : Int))))) rfl rfl rfl (List.getElem?_eq_getElem (by omega)) (by rw [rowC_set _ _ _ _ _ (by omega), gUpd_upd]) (fun j hj _ => by rw [← rowC_other _ _ _ _ _ hj, ← rowC_other _ _ _ _ _ hj]) Try.sizeOf45 (by rw [encW_len, rowC_len]; omega) (encW_cells 24 _)) fun _ => ?_
                refine JT_done (by kernel_rfl) ?_
                refine JE_block ?_
                refine JE_seq ?_
                refine JC_region ?_
                refine JL_pd rfl (det_move rfl) ?_
                refine JL_pd rfl (det_add rfl rfl ⟨by omega, by omega⟩) ?_
                refine JL_pd rfl (det_assign rfl) ?_
                refine JL_nil ?_
                -- stop: end
                refine JE_roundF hK4 (n + 1, uniW w (behW m m.locks (g0 i k) (n : Int))) ⟨by simp only; omega, fun h => absurd hkl h, fun j hj => ?_⟩ (by simp only; omega) (stsub_consI rfl (by simp only; omega) stsub_nil) (ht_cons (ht_cons (ht_cons ht_nil)))
                show (w j || behW m m.locks (g0 i k) (n : Int) j) = true ↔ _
                rw [Bool.or_eq_true, hw j hj, or_assoc]
                refine or_congr Iff.rfl ⟨fun h => ?_, fun ⟨s, h1, h2⟩ => ?_⟩
                · rcases h with ⟨s, h1, h2⟩ | h
                  · exact ⟨s, by simp only; omega, h2⟩
                  · exact ⟨n, by simp only; omega, h⟩
                · by_cases e : s = n
                  · subst e; exact .inr h2
                  · exact .inl ⟨s, by simp only at h1; omega, h2⟩
              · have hkl : ¬ k < lost := by have := of_decide_eq_false h6; omega
                refine JC_exit ?_
                refine JE_seq_exit ?_
                refine JE_then_exit ?_
                refine JE_block_here ?_
                -- stop: end
                refine JE_cutF hK3 (gUpd g1 i (k + 1) w, n) ⟨hst w n hn hw (.inr hkl), hgk⟩ (stsub_cons rfl stsub_nil) (ht_cons (ht_cons (ht_cons ht_nil)))
            · have hn8 : n = 8 := by have := of_decide_eq_false k5; omega
              refine JL_skip rfl rfl k5 rfl ?_
              refine JL_skip rfl rfl k5 rfl ?_
              refine JL_skip rfl rfl k5 rfl ?_
              refine JL_pd rfl (det_pick_f rfl k5 rfl) ?_
              refine JL_nil ?_
              refine JE_seq ?_
              -- stop: cond
              refine JC_cond rfl (fun h6 => ?_) (fun h6 => ?_)
              · cases h6
              · refine JC_exit ?_
                refine JE_seq_exit ?_
                refine JE_then_exit ?_
                refine JE_block_here ?_
                -- stop: end
                refine JE_cutF hK3 (gUpd g1 i (k + 1) w, n) ⟨hst w n hn hw (.inl hn8), hgk⟩ (stsub_cons rfl stsub_nil) (ht_cons (ht_cons (ht_cons ht_nil)))
          · rintro ⟨g2, n2⟩ ⟨hE2, hg2⟩
            dsimp only [List.cons_append, List.nil_append] at hE2 hg2 ⊢
            refine JC_seq ?_
            refine JC_region ?_
            refine JL_pd rfl (det_move rfl) ?_
            refine JL_pd rfl (det_move rfl) ?_
            refine JL_pd rfl (det_len rfl Try.runUnderlying23) ?_
            refine JL_pd rfl (det_eql rfl rfl) ?_
            refine JL_nil ?_
            refine JE_seq ?_
            -- stop: cond
            refine JC_if rfl (fun h7 => ?_) (fun h7 => ?_)
            · obtain rfl : i = log.length := by omega
              refine JC_draw [9] (by kernel_rfl) ?_
              refine JA_dt (i := 0) rfl (by kernel_rfl) (by kernel_rfl) rfl rfl (det_loadA (vs := encW 24 o2) rfl Try.isAgg45 Try.sizeOf45 (by rw [List.drop_zero]; exact List.take_of_length_le (by rw [encW_len]; decide)) (encW_len 24 _)) ?_
              refine JA_pd (i := 1) rfl (by kernel_rfl) rfl rfl (det_move rfl) ?_
              refine JA_pd (i := 2) rfl (by kernel_rfl) rfl rfl (det_move rfl) ?_
              refine JA_dt (i := 3) rfl (by kernel_rfl) (by kernel_rfl) rfl rfl (det_indexAddr (i := log.length) rfl rfl (by omega) (by omega) Try.runUnderlying124 Try.sizeOf125) ?_
              refine JA_dt (i := 4) rfl (by kernel_rfl) (by kernel_rfl) rfl rfl (det_loadE rfl (by first | assumption | omega | decide) Try.isAgg125 rfl rfl) ?_
              refine JA_pd (i := 5) rfl (by kernel_rfl) rfl rfl (det_move rfl) ?_
              refine JA_pd (i := 6) rfl (by kernel_rfl) rfl rfl (det_indexOwn (i := k) rfl rfl (by omega) (by omega) Try.runUnderlying125 Try.sizeOf45) ?_
              refine JA_dt (i := 7) rfl (by kernel_rfl) (by kernel_rfl) rfl rfl (det_loadG log.length (vs := encW 24 (g0 log.length k)) rfl (List.getElem?_eq_getElem (by omega)) Try.isAgg45 Try.sizeOf45 (by rw [rowC_get _ _ _ _ (by omega), hg2]) (encW_len 24 _)) ?_
              refine JA_one (i := 8) (by kernel_rfl) rfl rfl (jo_callv rfl rfl Try.call62 rfl (Union_j _ _)) (fun _ => ⟨hsub_refl, fun _ h => h⟩) fun _ => ?_
              refine JA_tail (i := 9) (by kernel_rfl) rfl rfl rfl rfl (jo_store (vs := encW 24 (uniW o2 (g0 log.length k))) rfl rfl rfl (splice_whole (by rw [encW_len]; rfl)) Try.sizeOf45 (Nat.ble_eq_true_of_le (by rw [encW_len, encW_len]; decide)) (encW_cells 24 _)) fun _ => ?_
              refine JT_done (by kernel_rfl) ?_
              refine JE_block ?_
              refine JE_seq ?_
              refine JC_region ?_
              refine JL_pd rfl (det_move rfl) ?_
              refine JL_pd rfl (det_add rfl rfl ⟨by omega, by omega⟩) ?_
              refine JL_pd rfl (det_assign rfl) ?_
              refine JL_nil ?_
              -- stop: end
              refine JE_roundF hK2 (k + 1, g2, uniW o2 (g0 log.length k)) ⟨by simp only; omega, hE2, fun j hj => ?_⟩ (by simp only; omega) (stsub_consI rfl (by simp only; omega) stsub_nil) (ht_cons (ht_cons (ht_cons ht_nil)))
              show (o2 j || g0 log.length k j) = true ↔ _
              rw [Bool.or_eq_true, hO0 j hj, hE0.exact hk2 hj]
              constructor
              · rintro (⟨_, s, h1, h2⟩ | h)
                · exact ⟨rfl, s, by simp only; omega, h2⟩
                · exact ⟨rfl, k, by simp only; omega, h⟩
              · rintro ⟨_, s, h1, h2⟩
                by_cases e : s = k
                · subst e; exact .inr h2
                · exact .inl ⟨rfl, s, by simp only at h1; omega, h2⟩
            · have hne : i ≠ log.length := fun e => h7 (by omega)
              refine JC_skip ?_
              refine JE_block ?_
              refine JE_seq ?_
              refine JC_region ?_
              refine JL_pd rfl (det_move rfl) ?_
              refine JL_pd rfl (det_add rfl rfl ⟨by omega, by omega⟩) ?_
              refine JL_pd rfl (det_assign rfl) ?_
              refine JL_nil ?_
              -- stop: end
              refine JE_roundF hK2 (k + 1, g2, o2) ⟨by simp only; omega, hE2, fun j hj => ?_⟩ (by simp only; omega) (stsub_consI rfl (by simp only; omega) stsub_nil) (ht_cons (ht_cons (ht_cons ht_nil)))
              rw [hO0 j hj]
              exact ⟨fun h => absurd h.1 hne, fun h => absurd h.1 hne⟩
      · obtain rfl : k = lost + 1 := by omega
        refine JC_exit ?_
        refine JE_seq_exit ?_
        refine JE_then_exit ?_
        refine JE_block_here ?_
        refine JE_block ?_
        refine JE_seq ?_
        refine JC_region ?_
        refine JL_pd rfl (det_move rfl) ?_
        refine JL_pd rfl (det_add rfl rfl ⟨by omega, by omega⟩) ?_
        refine JL_pd rfl (det_assign rfl) ?_
        refine JL_nil ?_
        -- stop: end
        refine JE_roundF hK (i + 1, g0, o2) ⟨by simp only; omega, hE0.rowup, fun j hj => ?_⟩ (by simp only; omega) (stsub_consI rfl (by simp only; omega) stsub_nil) (ht_cons (ht_cons (ht_cons ht_nil)))
        rw [hO0 j hj]
        exact ⟨fun ⟨h1, s, h2, h3⟩ => ⟨by simp only; omega, s, by omega, h3⟩, fun ⟨h1, s, h2, h3⟩ => ⟨by simp only at h1; omega, s, by omega, h3⟩⟩
    · obtain rfl : i = log.length + 1 := by omega
      refine JC_exit ?_
      refine JE_seq_exit ?_
      refine JE_then_exit ?_
      refine JE_block_here ?_
      refine JE_seq ?_
      refine JC_seq ?_
      refine JC_region ?_
      refine JL_dt rfl (det_loadA (vs := encW 24 out) rfl Try.isAgg45 Try.sizeOf45 (by rw [List.drop_zero]; exact List.take_of_length_le (by rw [encW_len]; decide)) (encW_len 24 _)) ?_
      refine JL_step0 rfl rfl (jo_store (vs := encW 24 out) rfl rfl rfl (splice_whole (by rw [encW_len]; rfl)) Try.sizeOf45 (Nat.ble_eq_true_of_le (by rw [encW_len]; decide)) (encW_cells 24 _)) fun _ => ?_
      refine JL_nil ?_
      refine JE_seq ?_
      refine JC_ret ?_
      -- stop: out
      refine JE_out (.inl rfl) () (results1 Try.results37 (res_box rfl Try.isAgg45 Try.sizeOf45 rfl)) (by show Value.agg (encW 24 out).toArray = _; rw [encW_congr (b := endsW m log lost) fun n hn => by rw [Bool.eq_iff_iff, hO n hn, endsW_iff V log lost n hn]; exact ⟨fun h => h.2, fun h => ⟨rfl, h⟩⟩]; rfl) (List.Perm.refl _) (fun _ _ => trivial)
end Go.Proofs.Ytgbfjcgjcnndpaa

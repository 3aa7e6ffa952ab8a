/- Walks of package path: Best. -/
import Derived.Test.YtcfhbnfincpehaaW5
namespace Go.Proofs.Ytcfhbnfincpehaa
open Go.RowKit Go.Shelf

/-- Both states, so far to the sides, are in a list. -/
def pairOk (A : List St) (s : St) (n : Nat) : Bool := decide ((⟨s.b - n, s.d⟩ : St) ∈ A) && decide ((⟨s.b + n, s.d⟩ : St) ∈ A)
def runUp (p : Nat → Bool) : Nat → Nat → Nat
  | 0, m => m
  | f + 1, m => if p m = true then runUp p f (m + 1) else m
/-- How many distances, from 0 on, are so. -/
def roomN (A : List St) (s : St) : Nat := runUp (pairOk A s) 60 0
theorem runUp_spec (p : Nat → Bool) : ∀ f m, m ≤ runUp p f m ∧ (∀ j, m ≤ j → j < runUp p f m → p j = true) ∧ (runUp p f m < m + f → p (runUp p f m) = false) ∧ runUp p f m ≤ m + f
  | 0, m => ⟨by simp [runUp], by intro j h1 h2; simp [runUp] at h2; omega, by simp [runUp], by simp [runUp]⟩
  | f + 1, m => by
    unfold runUp
    by_cases h : p m = true
    · rw [if_pos h]
      obtain ⟨h1, h2, h3, h4⟩ := runUp_spec p f (m + 1)
      refine ⟨by omega, fun j hj1 hj2 => ?_, fun hlt => h3 (by omega), by omega⟩
      by_cases e : j = m
      · subst e; exact h
      · exact h2 j (by omega) hj2
    · rw [if_neg h]
      exact ⟨by omega, by intro j h1 h2; omega, fun _ => by simpa using h, by omega⟩
theorem roomN_eq {A : List St} {s : St} {k : Nat} (h1 : ∀ m, m < k → pairOk A s m = true) (h2 : pairOk A s k = false) (hk : k < 60) : roomN A s = k := by
  obtain ⟨a, b, c, d⟩ := runUp_spec (pairOk A s) 60 0
  unfold roomN
  rcases Nat.lt_trichotomy (runUp (pairOk A s) 60 0) k with h | h | h
  · have := c (by omega); rw [h1 _ h] at this; cases this
  · exact h
  · have := b k (by omega) h; rw [h2] at this; cases this
theorem roomN_ge {A : List St} {s : St} {k : Nat} (h1 : ∀ m, m < k → pairOk A s m = true) (hk : k ≤ 60) : k ≤ roomN A s := by
  obtain ⟨a, b, c, d⟩ := runUp_spec (pairOk A s) 60 0
  unfold roomN
  rcases Nat.lt_or_ge (runUp (pairOk A s) 60 0) k with h | h
  · have := c (by omega); rw [h1 _ h] at this; cases this
  · exact h
theorem roomN_lt {A : List St} {s : St} {k : Nat} (h2 : pairOk A s k = false) : roomN A s ≤ k := by
  obtain ⟨a, b, c, d⟩ := runUp_spec (pairOk A s) 60 0
  unfold roomN
  rcases Nat.lt_or_ge k (runUp (pairOk A s) 60 0) with h | h
  · have := b k (by omega) h; rw [h2] at this; cases this
  · exact h
def bestS (A : List St) (q : St × Int) (s : St) : St × Int := if q.2 < (roomN A s : Int) - 1 then (s, (roomN A s : Int) - 1) else q
/-- The first start of the greatest room, and its room; -1 where there is none. -/
def bestF (A : List St) : St × Int := A.foldl (bestS A) (⟨0, 0⟩, -1)
/-- A list as a set. -/
def setL (A : List St) : St → Option Bool := fun s => if s ∈ A then some true else none
theorem setL_get (A : List St) (s : St) : (setL A s).getD false = decide (s ∈ A) := by
  unfold setL; by_cases h : s ∈ A <;> simp [h]
theorem setL_upd (A : List St) (s : St) : upd (setL A) s true = setL (A ++ [s]) := by
  funext t; unfold upd setL; by_cases h : t = s <;> simp [h]
theorem mem_doneS {i j : Nat} {s : St} (h : s ∈ doneS i j) (hj : j = 0) : 1 ≤ s.b ∧ s.b ≤ i ∧ -5 ≤ s.d ∧ s.d ≤ 5 := by
  subst hj
  simp only [doneS, List.range_zero, List.map_nil, List.append_nil, List.mem_flatMap, List.mem_map, List.mem_range] at h
  obtain ⟨a, ha, b, hb, rfl⟩ := h
  simp only
  omega
theorem aims_bd {l : La} {p : Pk} {s : St} (h : s ∈ aimsL l p) (hb : l.boards ≤ 40) : 1 ≤ s.b ∧ s.b ≤ 40 ∧ -5 ≤ s.d ∧ s.d ≤ 5 := by
  have := mem_doneS (List.mem_filter.1 h).1 rfl
  omega
theorem pairOk_bd {l : La} {p : Pk} {s : St} {n : Nat} (hb : l.boards ≤ 40) (h : pairOk (aimsL l p) s n = true) (hs : 1 ≤ s.b) : n ≤ 40 := by
  simp only [pairOk, Bool.and_eq_true, decide_eq_true_eq] at h
  have := aims_bd h.2 hb
  simp only at this
  omega
theorem aims_len (l : La) (p : Pk) (hb : l.boards ≤ 40) : (aimsL l p).length ≤ 500 := by
  have := List.length_filter_le (sureS l p) (doneS l.boards.toNat 0)
  rw [doneS_len] at this
  unfold aimsL; omega

theorem Best_je (l : La) (p : Pk) (ha pa : Option Addr) (hc pc : Nat) (he : aimsErr l p ≠ 0) : Cv Try.prog 31 [.agg #[I l.boards, I l.rows, .slice ha l.hooks.length hc, .slice pa l.patches.length pc], .agg #[I p.boards.lo, I p.boards.hi, I p.dirs.lo, I p.dirs.hi]] (KLane l ha hc pa pc) (.tuple #[.agg #[I 0, I 0], I 0, I (aimsErr l p)]) := by
  refine Cx_of Try.func31 rfl Try.ntmps31 rfl fun w0 M0 => ?_
  refine JC_seq ?_
  refine JC_region ?_
  refine JL_step rfl rfl rfl (jo_box rfl rfl) fun b2 => ?_
  refine JL_step rfl rfl rfl (jo_box rfl rfl) fun b3 => ?_
  refine JL_step rfl rfl rfl (jo_alloc0 Try.zeroValue39 rfl) fun b4 => ?_
  refine JL_pd rfl (det_assign rfl) ?_
  refine JL_pd rfl (det_assign rfl) ?_
  refine JL_nil ?_
  refine JE_seq ?_
  refine JC_scope rfl ?_
  refine JC_seq ?_
  refine JC_region ?_
  refine JL_dt rfl (det_loadKA rfl Try.isAgg37 Try.sizeOf37 rfl rfl) ?_
  refine JL_dt rfl (det_loadKA rfl Try.isAgg62 Try.sizeOf62 rfl rfl) ?_
  -- stop: op  2 t17 := (call (Call (value f29) (t15 t16) (37 62)))   <0 1>   146
  refine JL_step rfl rfl rfl (jo_callv rfl rfl Try.call29 rfl (Aims_je l p ha pa hc pc he)) fun _ => ?_
  refine JL_pd rfl (det_move rfl) ?_
  refine JL_pd rfl (det_extract rfl rfl) ?_
  refine JL_pd rfl (det_extract rfl rfl) ?_
  refine JL_pd rfl (det_assign rfl) ?_
  refine JL_pd rfl (det_assign rfl) ?_
  refine JL_nil ?_
  refine JE_seq ?_
  refine JC_seq ?_
  refine JC_seq ?_
  refine JC_region ?_
  refine JL_pd rfl (det_move rfl) ?_
  refine JL_pd rfl (det_neq rfl rfl) ?_
  refine JL_nil ?_
  refine JE_seq ?_
  -- stop: cond
  refine JC_ifn rfl (fun h1 => ?_) (fun h1 => ?_)
  · refine JC_seq ?_
    refine JC_region ?_
    refine JL_pd rfl (det_build rfl (bld_39)) ?_
    refine JL_pd rfl (det_move rfl) ?_
    refine JL_step0 rfl rfl (jo_store rfl rfl rfl (by first | (simp only [splice_norm]; done) | (simp only [splice_norm]; rfl) | rfl) Try.sizeOf39 rfl rfl) fun _ => ?_
    refine JL_pd rfl (det_assign rfl) ?_
    refine JL_pd rfl (det_assign rfl) ?_
    refine JL_nil ?_
    refine JE_seq ?_
    refine JC_ret ?_
    refine JE_seq_ret ?_
    refine JE_scope_ret ?_
    -- stop: out
    refine JE_out (.inl rfl) () (results3 Try.results31 (res_box rfl Try.isAgg39 Try.sizeOf39 rfl) (res_tmp rfl) (res_tmp rfl)) rfl (List.Perm.refl _) (fun _ _ => trivial)
  · refine JC_skip ?_
    refine JE_seq ?_
    refine JC_seq ?_
    refine JC_region ?_
    -- stop: op  0 t24 := (makeMap 114 none)   150
    exact absurd h1 he
set_option maxRecDepth 100000 in
theorem Best_jo (l : La) (p : Pk) (ha pa : Option Addr) (hc pc : Nat) (he : aimsErr l p = 0) : Cv Try.prog 31 [.agg #[I l.boards, I l.rows, .slice ha l.hooks.length hc, .slice pa l.patches.length pc], .agg #[I p.boards.lo, I p.boards.hi, I p.dirs.lo, I p.dirs.hi]] (KLane l ha hc pa pc)
    (if (bestF (aimsL l p)).2 < 0 then .tuple #[.agg #[I 0, I 0], I 0, I 9] else .tuple #[.agg #[I (bestF (aimsL l p)).1.b, I (bestF (aimsL l p)).1.d], I (bestF (aimsL l p)).2, I 0]) := by
  have hf : fault l = 0 := by
    unfold aimsErr at he; split at he
    · contradiction
    · simp_all
  have V := fault_valid hf
  have v2 := V.b2
  have hlen := aims_len l p v2
  refine Cx_of Try.func31 rfl Try.ntmps31 rfl fun w0 M0 => ?_
  refine JC_seq ?_
  refine JC_region ?_
  refine JL_step rfl rfl rfl (jo_box rfl rfl) fun b2 => ?_
  refine JL_step rfl rfl rfl (jo_box rfl rfl) fun b3 => ?_
  refine JL_step rfl rfl rfl (jo_alloc0 Try.zeroValue39 rfl) fun b4 => ?_
  refine JL_pd rfl (det_assign rfl) ?_
  refine JL_pd rfl (det_assign rfl) ?_
  refine JL_nil ?_
  refine JE_seq ?_
  refine JC_scope rfl ?_
  refine JC_seq ?_
  refine JC_region ?_
  refine JL_dt rfl (det_loadKA rfl Try.isAgg37 Try.sizeOf37 rfl rfl) ?_
  refine JL_dt rfl (det_loadKA rfl Try.isAgg62 Try.sizeOf62 rfl rfl) ?_
  -- stop: op  2 t17 := (call (Call (value f29) (t15 t16) (37 62)))   <0 1>   146
  refine JL_step rfl rfl rfl (jo_call rfl rfl Try.call29 rfl (Aims_jo l p ha pa hc pc he)) fun ⟨a, cap⟩ => ?_
  refine JL_pd rfl (det_move rfl) ?_
  refine JL_pd rfl (det_extract rfl rfl) ?_
  refine JL_pd rfl (det_extract rfl rfl) ?_
  refine JL_pd rfl (det_assign rfl) ?_
  refine JL_pd rfl (det_assign rfl) ?_
  refine JL_nil ?_
  refine JE_seq ?_
  refine JC_seq ?_
  refine JC_seq ?_
  refine JC_region ?_
  refine JL_pd rfl (det_move rfl) ?_
  refine JL_pd rfl (det_neq rfl rfl) ?_
  refine JL_nil ?_
  refine JE_seq ?_
  -- stop: cond
  refine JC_ifn rfl (fun h1 => ?_) (fun h1 => ?_)
  · refine JC_seq ?_
    refine JC_region ?_
    refine JL_pd rfl (det_build rfl (bld_39)) ?_
    refine JL_pd rfl (det_move rfl) ?_
    refine JL_step0 rfl rfl (jo_store rfl rfl rfl (by first | (simp only [splice_norm]; done) | (simp only [splice_norm]; rfl) | rfl) Try.sizeOf39 rfl rfl) fun _ => ?_
    refine JL_pd rfl (det_assign rfl) ?_
    refine JL_pd rfl (det_assign rfl) ?_
    refine JL_nil ?_
    refine JE_seq ?_
    refine JC_ret ?_
    refine JE_seq_ret ?_
    refine JE_scope_ret ?_
    -- stop: out
    exact absurd rfl h1
  · refine JC_skip ?_
    refine JE_seq ?_
    refine JC_seq ?_
    refine JC_region ?_
    -- stop: op  0 t24 := (makeMap 114 none)   150
    refine JL_step rfl rfl rfl (jo_makeMap ekSt vB) fun b24 => ?_
    refine JL_pd rfl (det_assign rfl) ?_
    refine JL_nil ?_
    refine JE_seq ?_
    refine JC_seq ?_
    refine JC_seq ?_
    refine JC_region ?_
    refine JL_pd rfl (det_move rfl) ?_
    refine JL_pd rfl (det_len rfl Try.runUnderlying30) ?_
    refine JL_pd rfl (det_move rfl) ?_
    refine JL_nil ?_
    refine JE_seq ?_
    refine JC_block ?_
    -- stop: loop
    refine JC_loop (γ := Nat) (I := fun i => i ≤ (aimsL l p).length) (st' := fun i => [(27, I i), (26, I (aimsL l p).length), (25, .slice a (aimsL l p).length cap), (7, .slice a (aimsL l p).length cap), (8, .map (some b24)), (4, pt b4)])
      (H' := fun i => [mp b24 ekSt vB (setL ((aimsL l p).take i)), bx b4 [I 0, I 0]]) (R' := fun _ => KSl a (aimsL l p).length cap encSt (aimsL l p)) (μ := fun i => (aimsL l p).length - i) 0 (by omega)
      (stsub_cons rfl (stsub_cons rfl (stsub_cons rfl (stsub_cons rfl (stsub_cons rfl (stsub_cons rfl stsub_nil)))))) ?_ Knows.know ?_
    · show HSub _ [mp b24 ekSt vB (setL ((aimsL l p).take 0)), bx b4 [I 0, I 0]]
      have : setL ((aimsL l p).take 0) = fun _ => none := by funext s; simp [setL]
      rw [this]
      exact hsub_cons (hsub_cons hsub_nil)
    rintro i hi K hK
    (try dsimp only at hi ⊢)
    refine JC_seq ?_
    refine JC_region ?_
    refine JL_pd rfl (det_lss rfl rfl) ?_
    refine JL_nil ?_
    refine JE_seq ?_
    refine JC_seq ?_
    -- stop: cond
    refine JC_if rfl (fun h2 => ?_) (fun h2 => ?_)
    · refine JC_skip ?_
      refine JE_seq ?_
      refine JC_seq ?_
      refine JC_block ?_
      refine JC_seq ?_
      refine JC_region ?_
      refine JL_dt rfl (det_indexAddr rfl rfl (by first | rfl | omega) (by first | assumption | omega | decide) Try.runUnderlying30 Try.sizeOf39) ?_
      refine JL_dt rfl (det_loadEA rfl (by first | assumption | omega | decide) Try.isAgg39 Try.sizeOf39 rfl rfl rfl) ?_
      refine JL_step rfl rfl rfl (jo_alloc0 Try.zeroValue39 rfl) fun b10 => ?_
      refine JL_step0 rfl rfl (jo_store rfl rfl rfl (by first | (simp only [splice_norm]; done) | (simp only [splice_norm]; rfl) | rfl) Try.sizeOf39 rfl rfl) fun _ => ?_
      refine JL_nil ?_
      refine JE_seq ?_
      refine JC_region ?_
      refine JL_pd rfl (det_move rfl) ?_
      refine JL_dt rfl (det_loadKA rfl Try.isAgg39 Try.sizeOf39 rfl rfl) ?_
      -- stop: op  2 _ := (mapUpdate 114 t31 t32 (bool true))   <0 1>   152
      have hlt : i < (aimsL l p).length := by omega
      refine JL_step0 rfl rfl (jo_mapUpdate ((aimsL l p)[i]) true (.inl rfl) rfl rfl rfl goodSt Try.underlying114) fun _ => ?_
      refine JL_nil ?_
      refine JE_block ?_
      refine JE_seq ?_
      refine JC_region ?_
      refine JL_pd rfl (det_add rfl rfl ⟨by omega, by omega⟩) ?_
      refine JL_pd rfl (det_move rfl) ?_
      refine JL_nil ?_
      -- stop: end
      refine JE_round hK (i + 1) (by omega) (by omega) (stsub_cons rfl (stsub_cons rfl (stsub_cons rfl (stsub_cons rfl (stsub_cons rfl (stsub_cons rfl stsub_nil)))))) ?_ Knows.know
      rw [setL_upd, List.take_succ_eq_append_getElem hlt]
      exact hsub_cons (hsub_cons hsub_nil)
    · refine JC_exit ?_
      refine JE_seq_exit ?_
      refine JE_then_exit ?_
      refine JE_block_here ?_
      refine JE_seq ?_
      refine JC_seq ?_
      refine JC_region ?_
      refine JL_pd rfl (det_assign rfl) ?_
      refine JL_nil ?_
      refine JE_seq ?_
      refine JC_seq ?_
      refine JC_label ?_
      refine JE_seq ?_
      refine JC_seq ?_
      refine JC_seq ?_
      refine JC_region ?_
      refine JL_pd rfl (det_move rfl) ?_
      refine JL_pd rfl (det_len rfl Try.runUnderlying30) ?_
      refine JL_pd rfl (det_move rfl) ?_
      refine JL_nil ?_
      refine JE_seq ?_
      refine JC_block ?_
      -- stop: loop
      have hie : i = (aimsL l p).length := by omega
      rw [hie, List.take_length]
      refine JC_loop (γ := Nat × St × Int) (I := fun q => q.1 ≤ (aimsL l p).length ∧ q.2 = ((aimsL l p).take q.1).foldl (bestS (aimsL l p)) (⟨0, 0⟩, -1) ∧ -1 ≤ q.2.2 ∧ q.2.2 ≤ 41)
        (st' := fun q => [(36, I q.1), (35, I (aimsL l p).length), (34, .slice a (aimsL l p).length cap), (5, I q.2.2), (8, .map (some b24)), (4, pt b4)])
        (H' := fun q => [mp b24 ekSt vB (setL (aimsL l p)), bx b4 [I q.2.1.b, I q.2.1.d]]) (R' := fun _ => KSl a (aimsL l p).length cap encSt (aimsL l p)) (μ := fun q => (aimsL l p).length - q.1) (0, ⟨0, 0⟩, -1) ⟨by omega, rfl, by simp, by simp⟩
        (stsub_cons rfl (stsub_cons rfl (stsub_cons rfl (stsub_cons rfl (stsub_cons rfl (stsub_cons rfl stsub_nil)))))) (hsub_cons (hsub_cons hsub_nil)) Knows.know ?_
      clear hie hi h2 hK K i
      rintro ⟨i, st, r⟩ ⟨hi, hq, hr1, hr2⟩ K hK
      (try dsimp only at hi hq hr1 hr2 ⊢)
      refine JC_seq ?_
      refine JC_region ?_
      refine JL_pd rfl (det_lss rfl rfl) ?_
      refine JL_nil ?_
      refine JE_seq ?_
      refine JC_seq ?_
      -- stop: cond
      refine JC_if rfl (fun h2 => ?_) (fun h2 => ?_)
      · refine JC_skip ?_
        refine JE_seq ?_
        refine JC_seq ?_
        refine JC_block ?_
        refine JC_seq ?_
        refine JC_region ?_
        refine JL_dt rfl (det_indexAddr rfl rfl (by first | rfl | omega) (by first | assumption | omega | decide) Try.runUnderlying30 Try.sizeOf39) ?_
        refine JL_dt rfl (det_loadEA rfl (by first | assumption | omega | decide) Try.isAgg39 Try.sizeOf39 rfl rfl rfl) ?_
        refine JL_step rfl rfl rfl (jo_alloc0 Try.zeroValue39 rfl) fun b12 => ?_
        refine JL_step0 rfl rfl (jo_store rfl rfl rfl (by first | (simp only [splice_norm]; done) | (simp only [splice_norm]; rfl) | rfl) Try.sizeOf39 rfl rfl) fun _ => ?_
        refine JL_nil ?_
        refine JE_seq ?_
        refine JC_seq ?_
        refine JC_seq ?_
        refine JC_region ?_
        refine JL_pd rfl (det_move rfl) ?_
        refine JL_pd rfl (det_add rfl rfl ⟨by omega, by omega⟩) ?_
        refine JL_pd rfl (det_move rfl) ?_
        refine JL_nil ?_
        refine JE_seq ?_
        refine JC_block ?_
        -- stop: loop
        have hlt : i < (aimsL l p).length := by omega
        have hsb := aims_bd (List.getElem_mem hlt) v2
        refine JC_loop (γ := Nat) (I := fun n => (n : Int) ≤ r + 2 ∧ ∀ m, m < n → pairOk (aimsL l p) ((aimsL l p)[i]) m = true)
          (st' := fun n => [(42, I n), (41, I (r + 2)), (36, I i), (35, I (aimsL l p).length), (34, .slice a (aimsL l p).length cap), (5, I r), (8, .map (some b24)), (4, pt b4), (12, pt b12)])
          (H' := fun n => [mp b24 ekSt vB (setL (aimsL l p)), bx b4 [I st.b, I st.d], bx b12 [I ((aimsL l p)[i]).b, I ((aimsL l p)[i]).d]]) (R' := fun _ => KSl a (aimsL l p).length cap encSt (aimsL l p)) (μ := fun n => (r + 2 - n).toNat) 0 ⟨by omega, fun m hm => by omega⟩
          (stsub_cons rfl (stsub_cons rfl (stsub_cons rfl (stsub_cons rfl (stsub_cons rfl (stsub_cons rfl (stsub_cons rfl (stsub_cons rfl (stsub_cons rfl stsub_nil))))))))) (hsub_cons (hsub_cons (hsub_bx rfl hsub_nil))) Knows.know ?_
        have hskip : pairOk (aimsL l p) ((aimsL l p)[i]) (r + 1).toNat = false ∨ (∃ m : Nat, (m : Int) < r + 2 ∧ pairOk (aimsL l p) ((aimsL l p)[i]) m = false) → bestS (aimsL l p) (st, r) ((aimsL l p)[i]) = (st, r) := by
          intro h
          obtain ⟨m, hm, hp⟩ : ∃ m : Nat, (m : Int) < r + 2 ∧ pairOk (aimsL l p) ((aimsL l p)[i]) m = false := h.elim (fun h => ⟨(r + 1).toNat, by omega, h⟩) id
          have := roomN_lt hp
          unfold bestS
          rw [if_neg (by show ¬ r < _; omega)]
        have hfold : ((aimsL l p).take (i + 1)).foldl (bestS (aimsL l p)) (⟨0, 0⟩, -1) = bestS (aimsL l p) (st, r) ((aimsL l p)[i]) := by
          rw [List.take_succ_eq_append_getElem hlt, List.foldl_append, ← hq]; rfl
        rintro n ⟨hn, hok⟩ K3 hK3
        (try dsimp only at hn hok ⊢)
        refine JC_seq ?_
        refine JC_region ?_
        refine JL_pd rfl (det_lss rfl rfl) ?_
        refine JL_nil ?_
        refine JE_seq ?_
        refine JC_seq ?_
        -- stop: cond
        refine JC_if rfl (fun h3 => ?_) (fun h3 => ?_)
        · refine JC_skip ?_
          refine JE_seq ?_
          refine JC_seq ?_
          refine JC_block ?_
          refine JC_seq ?_
          refine JC_region ?_
          refine JL_pd rfl (det_move rfl) ?_
          refine JL_pd rfl (det_assign rfl) ?_
          refine JL_nil ?_
          refine JE_seq ?_
          refine JC_seq ?_
          refine JC_region ?_
          refine JL_pd rfl (det_move rfl) ?_
          refine JL_pd rfl (det_fieldAddr rfl fo_39_0) ?_
          refine JL_dt rfl (det_loadK rfl Try.isAgg3 rfl) ?_
          refine JL_pd rfl (det_move rfl) ?_
          refine JL_pd rfl (det_sub rfl rfl ⟨by omega, by omega⟩) ?_
          refine JL_pd rfl (det_fieldAddr rfl fo_39_1) ?_
          refine JL_dt rfl (det_loadK rfl Try.isAgg3 rfl) ?_
          refine JL_pd rfl (det_build rfl (bld_39_0_1 _ _)) ?_
          -- stop: op  8 t53 := (lookup 114 t45 t52 false)   <0 7>   158
          refine JL_dt rfl (det_lookup1B ⟨((aimsL l p)[i]).b - n, ((aimsL l p)[i]).d⟩ rfl rfl goodSt Try.underlying114 Try.zeroValue4) ?_
          refine JL_pd rfl (det_not rfl) ?_
          refine JL_pd rfl (det_move rfl) ?_
          -- stop: guard 10
          refine JL_split (d0 := 55) rfl (fun h4 => ?_) (fun h4 => ?_)
          · refine JL_skip rfl rfl h4 rfl ?_
            refine JL_skip rfl rfl h4 rfl ?_
            refine JL_skip rfl rfl h4 rfl ?_
            refine JL_skip rfl rfl h4 rfl ?_
            refine JL_skip rfl rfl h4 rfl ?_
            refine JL_skip rfl rfl h4 rfl ?_
            refine JL_skip rfl rfl h4 rfl ?_
            refine JL_skip rfl rfl h4 rfl ?_
            refine JL_skip rfl rfl h4 rfl ?_
            refine JL_skip rfl rfl h4 rfl ?_
            refine JL_pd rfl (det_pick_t rfl h4 rfl) ?_
            refine JL_nil ?_
            refine JE_seq ?_
            -- stop: cond
            refine JC_cond rfl (fun h5 => ?_) (fun h5 => ?_)
            · refine JC_exit ?_
              refine JE_block_on rfl ?_
              refine JE_seq_exit ?_
              refine JE_then_exit ?_
              refine JE_block_on rfl ?_
              refine JE_seq_exit ?_
              refine JE_block_here ?_
              refine JE_seq ?_
              refine JC_region ?_
              refine JL_pd rfl (det_add rfl rfl ⟨by omega, by omega⟩) ?_
              refine JL_pd rfl (det_move rfl) ?_
              refine JL_nil ?_
              -- stop: end
              simp only [setL_get] at h4
              refine JE_round hK (i + 1, st, r) ⟨by simp only; omega, ?_, hr1, hr2⟩ (by simp only; omega) (stsub_cons rfl (stsub_cons rfl (stsub_cons rfl (stsub_cons rfl (stsub_cons rfl (stsub_cons rfl stsub_nil)))))) (hsub_cons (hsub_cons hsub_nil)) Knows.know
              simp only
              rw [hfold, hskip (.inr ⟨n, by omega, by simp at h4; simp [pairOk, h4]⟩)]
            · refine JC_skip ?_
              refine JE_block ?_
              refine JE_seq ?_
              refine JC_region ?_
              refine JL_pd rfl (det_add rfl rfl ⟨by omega, by omega⟩) ?_
              refine JL_pd rfl (det_move rfl) ?_
              refine JL_nil ?_
              -- stop: end
              exact absurd h5 (by simp)
          · refine JL_guard rfl rfl h4 ?_
            refine JL_pd rfl (det_move rfl) ?_
            refine JL_guard rfl rfl h4 ?_
            refine JL_pd rfl (det_fieldAddr rfl fo_39_0) ?_
            refine JL_guard rfl rfl h4 ?_
            refine JL_dt rfl (det_loadK rfl Try.isAgg3 rfl) ?_
            refine JL_guard rfl rfl h4 ?_
            refine JL_pd rfl (det_move rfl) ?_
            refine JL_guard rfl rfl h4 ?_
            refine JL_pd rfl (det_add rfl rfl ⟨by omega, by omega⟩) ?_
            refine JL_guard rfl rfl h4 ?_
            refine JL_pd rfl (det_fieldAddr rfl fo_39_1) ?_
            refine JL_guard rfl rfl h4 ?_
            refine JL_dt rfl (det_loadK rfl Try.isAgg3 rfl) ?_
            refine JL_guard rfl rfl h4 ?_
            refine JL_pd rfl (det_build rfl (bld_39_0_1 _ _)) ?_
            refine JL_guard rfl rfl h4 ?_
            -- stop: op 19 t64 := (lookup 114 t56 t63 false)   <11 18 10>   158
            refine JL_dt rfl (det_lookup1B ⟨((aimsL l p)[i]).b + n, ((aimsL l p)[i]).d⟩ rfl rfl goodSt Try.underlying114 Try.zeroValue4) ?_
            refine JL_guard rfl rfl h4 ?_
            refine JL_pd rfl (det_not rfl) ?_
            refine JL_pd rfl (det_pick_f rfl h4 rfl) ?_
            refine JL_nil ?_
            refine JE_seq ?_
            -- stop: cond
            refine JC_cond rfl (fun h5 => ?_) (fun h5 => ?_)
            · refine JC_exit ?_
              refine JE_block_on rfl ?_
              refine JE_seq_exit ?_
              refine JE_then_exit ?_
              refine JE_block_on rfl ?_
              refine JE_seq_exit ?_
              refine JE_block_here ?_
              refine JE_seq ?_
              refine JC_region ?_
              refine JL_pd rfl (det_add rfl rfl ⟨by omega, by omega⟩) ?_
              refine JL_pd rfl (det_move rfl) ?_
              refine JL_nil ?_
              -- stop: end
              simp only [setL_get] at h4 h5
              refine JE_round hK (i + 1, st, r) ⟨by simp only; omega, ?_, hr1, hr2⟩ (by simp only; omega) (stsub_cons rfl (stsub_cons rfl (stsub_cons rfl (stsub_cons rfl (stsub_cons rfl (stsub_cons rfl stsub_nil)))))) (hsub_cons (hsub_cons hsub_nil)) Knows.know
              simp only
              rw [hfold, hskip (.inr ⟨n, by omega, by simp at h5; simp [pairOk, h5]⟩)]
            · refine JC_skip ?_
              refine JE_block ?_
              refine JE_seq ?_
              refine JC_region ?_
              refine JL_pd rfl (det_add rfl rfl ⟨by omega, by omega⟩) ?_
              refine JL_pd rfl (det_move rfl) ?_
              refine JL_nil ?_
              -- stop: end
              simp only [setL_get] at h4 h5
              refine JE_round hK3 (n + 1) ⟨by omega, fun m hm => ?_⟩ (by omega) (stsub_consI rfl (by omega) (stsub_cons rfl (stsub_cons rfl (stsub_cons rfl (stsub_cons rfl (stsub_cons rfl (stsub_cons rfl (stsub_cons rfl (stsub_cons rfl stsub_nil))))))))) (hsub_cons (hsub_cons (hsub_bx rfl hsub_nil))) Knows.know
              by_cases e : m = n
              · subst e; simp at h4 h5; simp [pairOk, h4, h5]
              · exact hok m (by omega)
        · refine JC_exit ?_
          refine JE_seq_exit ?_
          refine JE_then_exit ?_
          refine JE_block_here ?_
          refine JE_seq ?_
          refine JC_seq ?_
          refine JC_region ?_
          refine JL_dt rfl (det_loadKA rfl Try.isAgg39 Try.sizeOf39 rfl rfl) ?_
          refine JL_step0 rfl rfl (jo_store rfl rfl rfl (by first | (simp only [splice_norm]; done) | (simp only [splice_norm]; rfl) | rfl) Try.sizeOf39 rfl rfl) fun _ => ?_
          refine JL_nil ?_
          refine JE_seq ?_
          refine JC_block ?_
          -- stop: loop
          have hn2 : (n : Int) = r + 2 := by omega
          refine JC_loop (γ := Nat) (I := fun k => n ≤ k + 1 ∧ (∀ m, m < k → pairOk (aimsL l p) ((aimsL l p)[i]) m = true) ∧ k ≤ 60)
            (st' := fun k => [(5, I ((k : Int) - 1)), (36, I i), (35, I (aimsL l p).length), (34, .slice a (aimsL l p).length cap), (8, .map (some b24)), (4, pt b4), (12, pt b12)])
            (H' := fun n => [mp b24 ekSt vB (setL (aimsL l p)), bx b4 [I ((aimsL l p)[i]).b, I ((aimsL l p)[i]).d], bx b12 [I ((aimsL l p)[i]).b, I ((aimsL l p)[i]).d]]) (R' := fun _ => KSl a (aimsL l p).length cap encSt (aimsL l p)) (μ := fun k => 60 - k) (n - 1) ⟨by omega, fun m hm => hok m (by omega), by omega⟩
            (stsub_consI rfl (by omega) (stsub_cons rfl (stsub_cons rfl (stsub_cons rfl (stsub_cons rfl (stsub_cons rfl (stsub_cons rfl stsub_nil))))))) (hsub_cons (hsub_bx rfl (hsub_bx rfl hsub_nil))) Knows.know ?_
          rintro k ⟨hk1, hk2, hk3⟩ K4 hK4
          (try dsimp only at hk1 hk2 hk3 ⊢)
          refine JC_seq ?_
          refine JC_seq ?_
          refine JC_region ?_
          refine JL_pd rfl (det_move rfl) ?_
          refine JL_pd rfl (det_fieldAddr rfl fo_39_0) ?_
          refine JL_dt rfl (det_loadK rfl Try.isAgg3 rfl) ?_
          refine JL_pd rfl (det_move rfl) ?_
          refine JL_pd rfl (det_sub rfl rfl ⟨by omega, by omega⟩) ?_
          refine JL_pd rfl (det_sub rfl rfl ⟨by omega, by omega⟩) ?_
          refine JL_pd rfl (det_fieldAddr rfl fo_39_1) ?_
          refine JL_dt rfl (det_loadK rfl Try.isAgg3 rfl) ?_
          refine JL_pd rfl (det_build rfl (bld_39_0_1 _ _)) ?_
          -- stop: op  9 t78 := (lookup 114 t69 t77 false)   <0 8>   164
          have e1 : ((aimsL l p)[i]).b - ((k : Int) - 1) - 1 = ((aimsL l p)[i]).b - k := by omega
          have e2 : ((aimsL l p)[i]).b + ((k : Int) - 1) + 1 = ((aimsL l p)[i]).b + k := by omega
          have hout : pairOk (aimsL l p) ((aimsL l p)[i]) k = false → k < 60 → bestS (aimsL l p) (st, r) ((aimsL l p)[i]) = (((aimsL l p)[i]), (k : Int) - 1) := by
            intro h hk
            have hnk : n ≤ k := by
              rcases Nat.lt_or_ge k n with h9 | h9
              · rw [hok k h9] at h; cases h
              · exact h9
            unfold bestS
            rw [roomN_eq hk2 h hk, if_pos (by show r < _; omega)]
          have hk41 : k ≤ 41 := by
            rcases Nat.lt_or_ge k 42 with h | h
            · omega
            · have := pairOk_bd v2 (hk2 41 (by omega)) hsb.1
              omega
          have hk60 : k < 60 := by omega
          refine JL_dt rfl (det_lookup1B ⟨((aimsL l p)[i]).b - ((k : Int) - 1) - 1, ((aimsL l p)[i]).d⟩ rfl rfl goodSt Try.underlying114 Try.zeroValue4) ?_
          refine JL_pd rfl (det_move rfl) ?_
          -- stop: guard 10
          refine JL_split (d0 := 79) rfl (fun h4 => ?_) (fun h4 => ?_)
          · refine JL_guard rfl rfl h4 ?_
            refine JL_pd rfl (det_move rfl) ?_
            refine JL_guard rfl rfl h4 ?_
            refine JL_pd rfl (det_fieldAddr rfl fo_39_0) ?_
            refine JL_guard rfl rfl h4 ?_
            refine JL_dt rfl (det_loadK rfl Try.isAgg3 rfl) ?_
            refine JL_guard rfl rfl h4 ?_
            refine JL_pd rfl (det_move rfl) ?_
            refine JL_guard rfl rfl h4 ?_
            refine JL_pd rfl (det_add rfl rfl ⟨by omega, by omega⟩) ?_
            refine JL_guard rfl rfl h4 ?_
            refine JL_pd rfl (det_add rfl rfl ⟨by omega, by omega⟩) ?_
            refine JL_guard rfl rfl h4 ?_
            refine JL_pd rfl (det_fieldAddr rfl fo_39_1) ?_
            refine JL_guard rfl rfl h4 ?_
            refine JL_dt rfl (det_loadK rfl Try.isAgg3 rfl) ?_
            refine JL_guard rfl rfl h4 ?_
            refine JL_pd rfl (det_build rfl (bld_39_0_1 _ _)) ?_
            refine JL_guard rfl rfl h4 ?_
            -- stop: op 20 t89 := (lookup 114 t80 t88 false)   <11 19 10>   164
            refine JL_dt rfl (det_lookup1B ⟨((aimsL l p)[i]).b + ((k : Int) - 1) + 1, ((aimsL l p)[i]).d⟩ rfl rfl goodSt Try.underlying114 Try.zeroValue4) ?_
            refine JL_pd rfl (det_pick_t rfl h4 rfl) ?_
            refine JL_nil ?_
            refine JE_seq ?_
            -- stop: cond
            simp only [setL_get, e1, decide_eq_true_eq] at h4
            refine JC_cond rfl (fun h5 => ?_) (fun h5 => ?_)
            · refine JC_skip ?_
              refine JE_seq ?_
              refine JC_block ?_
              refine JC_region ?_
              refine JL_pd rfl (det_move rfl) ?_
              refine JL_pd rfl (det_add rfl rfl ⟨by omega, by omega⟩) ?_
              refine JL_pd rfl (det_assign rfl) ?_
              refine JL_nil ?_
              refine JE_block ?_
              -- stop: end
              simp only [setL_get, e2, decide_eq_true_eq] at h5
              have hp : pairOk (aimsL l p) ((aimsL l p)[i]) k = true := by simp [pairOk, h4, h5]
              refine JE_round hK4 (k + 1) ⟨by omega, fun m hm => ?_, by omega⟩ (by omega) (stsub_consI rfl (by omega) (stsub_cons rfl (stsub_cons rfl (stsub_cons rfl (stsub_cons rfl (stsub_cons rfl (stsub_cons rfl stsub_nil))))))) (hsub_cons (hsub_bx rfl (hsub_bx rfl hsub_nil))) Knows.know
              by_cases e : m = k
              · subst e; exact hp
              · exact hk2 m (by omega)
            · refine JC_exit ?_
              refine JE_seq_exit ?_
              refine JE_then_exit ?_
              refine JE_block_here ?_
              refine JE_block ?_
              refine JE_seq ?_
              refine JC_region ?_
              refine JL_pd rfl (det_add rfl rfl ⟨by omega, by omega⟩) ?_
              refine JL_pd rfl (det_move rfl) ?_
              refine JL_nil ?_
              -- stop: end
              simp only [setL_get, e2, decide_eq_false_iff_not] at h5
              have hp : pairOk (aimsL l p) ((aimsL l p)[i]) k = false := by simp [pairOk, h5]
              refine JE_round hK (i + 1, ((aimsL l p)[i]), (k : Int) - 1) ⟨by simp only; omega, ?_, by simp only; omega, by simp only; omega⟩ (by simp only; omega) (stsub_cons rfl (stsub_cons rfl (stsub_cons rfl (stsub_cons rfl (stsub_cons rfl (stsub_cons rfl stsub_nil)))))) (hsub_cons (hsub_bx rfl hsub_nil)) Knows.know
              simp only
              rw [hfold, hout hp hk60]
          · refine JL_skip rfl rfl h4 rfl ?_
            refine JL_skip rfl rfl h4 rfl ?_
            refine JL_skip rfl rfl h4 rfl ?_
            refine JL_skip rfl rfl h4 rfl ?_
            refine JL_skip rfl rfl h4 rfl ?_
            refine JL_skip rfl rfl h4 rfl ?_
            refine JL_skip rfl rfl h4 rfl ?_
            refine JL_skip rfl rfl h4 rfl ?_
            refine JL_skip rfl rfl h4 rfl ?_
            refine JL_skip rfl rfl h4 rfl ?_
            refine JL_pd rfl (det_pick_f rfl h4 rfl) ?_
            refine JL_nil ?_
            refine JE_seq ?_
            -- stop: cond
            simp only [setL_get, e1, decide_eq_false_iff_not] at h4
            have hp : pairOk (aimsL l p) ((aimsL l p)[i]) k = false := by simp [pairOk, h4]
            refine JC_cond rfl (fun h5 => ?_) (fun h5 => ?_)
            · refine JC_skip ?_
              refine JE_seq ?_
              refine JC_block ?_
              refine JC_region ?_
              refine JL_pd rfl (det_move rfl) ?_
              refine JL_pd rfl (det_add rfl rfl ⟨by omega, by omega⟩) ?_
              refine JL_pd rfl (det_assign rfl) ?_
              refine JL_nil ?_
              refine JE_block ?_
              -- stop: end
              exact absurd h5 (by simp)
            · refine JC_exit ?_
              refine JE_seq_exit ?_
              refine JE_then_exit ?_
              refine JE_block_here ?_
              refine JE_block ?_
              refine JE_seq ?_
              refine JC_region ?_
              refine JL_pd rfl (det_add rfl rfl ⟨by omega, by omega⟩) ?_
              refine JL_pd rfl (det_move rfl) ?_
              refine JL_nil ?_
              -- stop: end
              refine JE_round hK (i + 1, ((aimsL l p)[i]), (k : Int) - 1) ⟨by simp only; omega, ?_, by simp only; omega, by simp only; omega⟩ (by simp only; omega) (stsub_cons rfl (stsub_cons rfl (stsub_cons rfl (stsub_cons rfl (stsub_cons rfl (stsub_cons rfl stsub_nil)))))) (hsub_cons (hsub_bx rfl hsub_nil)) Knows.know
              simp only
              rw [hfold, hout hp hk60]
      · refine JC_exit ?_
        refine JE_seq_exit ?_
        refine JE_then_exit ?_
        refine JE_block_here ?_
        refine JE_seq ?_
        refine JC_seq ?_
        refine JC_seq ?_
        refine JC_region ?_
        refine JL_pd rfl (det_move rfl) ?_
        refine JL_pd rfl (det_lss rfl rfl) ?_
        refine JL_nil ?_
        refine JE_seq ?_
        -- stop: cond
        have hie : i = (aimsL l p).length := by omega
        have hb : bestF (aimsL l p) = (st, r) := by rw [hq, hie, List.take_length]; rfl
        rw [hb]
        refine JC_if rfl (fun h3 => ?_) (fun h3 => ?_)
        · refine JC_seq ?_
          refine JC_region ?_
          refine JL_pd rfl (det_build rfl (bld_39)) ?_
          refine JL_step0 rfl rfl (jo_store rfl rfl rfl (by first | (simp only [splice_norm]; done) | (simp only [splice_norm]; rfl) | rfl) Try.sizeOf39 rfl rfl) fun _ => ?_
          refine JL_pd rfl (det_assign rfl) ?_
          refine JL_pd rfl (det_assign rfl) ?_
          refine JL_nil ?_
          refine JE_seq ?_
          refine JC_ret ?_
          refine JE_seq_ret ?_
          refine JE_scope_ret ?_
          -- stop: out
          refine JE_out (.inl rfl) () (results3 Try.results31 (res_box rfl Try.isAgg39 Try.sizeOf39 rfl) (res_tmp rfl) (res_tmp rfl)) (by simp [h3]) (List.Perm.refl _) (fun _ _ => trivial)
        · refine JC_skip ?_
          refine JE_seq ?_
          refine JC_seq ?_
          refine JC_region ?_
          refine JL_dt rfl (det_loadKA rfl Try.isAgg39 Try.sizeOf39 rfl rfl) ?_
          refine JL_pd rfl (det_move rfl) ?_
          refine JL_step0 rfl rfl (jo_store rfl rfl rfl (by first | (simp only [splice_norm]; done) | (simp only [splice_norm]; rfl) | rfl) Try.sizeOf39 rfl rfl) fun _ => ?_
          refine JL_pd rfl (det_assign rfl) ?_
          refine JL_pd rfl (det_assign rfl) ?_
          refine JL_nil ?_
          refine JE_seq ?_
          refine JC_ret ?_
          refine JE_scope_ret ?_
          -- stop: out
          refine JE_out (.inl rfl) () (results3 Try.results31 (res_box rfl Try.isAgg39 Try.sizeOf39 rfl) (res_tmp rfl) (res_tmp rfl)) (by simp [h3]) (List.Perm.refl _) (fun _ _ => trivial)
end Go.Proofs.Ytcfhbnfincpehaa

/- Own texts, laid together: C23 C24 C25. Nothing is asked. -/
import Derived.Test.YtgbfjcgjcnndpaaB6
import Derived.Test.YtgbfjcgjcnndpaaB3
set_option linter.unusedSimpArgs false
set_option linter.unusedVariables false
/- Walks of cycle: Locks. -/
namespace Go.Proofs.Ytgbfjcgjcnndpaa
open Go.RowKit Go.Shelf

set_option maxRecDepth 100000 in
theorem indexLk_j (s : Lk) (a : Option Addr) (cap : Nat) (xs : List Lk) (hl : xs.length ≤ 9223372036854775807) : Cv Try.prog 90 [.slice a xs.length cap, .agg #[I s.sg, I s.at_]] (KSl a xs.length cap encLk xs) (I (idxOf (fun x => decide (s = x)) xs)) := by
  refine Cx_of Try.func90 rfl Try.ntmps90 rfl fun w0 M0 => ?_
  refine JC_seq ?_
  refine JC_region ?_
  refine JL_step rfl rfl rfl (jo_box rfl rfl) fun b3 => ?_
  refine JL_pd rfl (det_assign rfl) ?_
  refine JL_nil ?_
  refine JE_seq ?_
  refine JC_seq ?_
  refine JC_seq ?_
  refine JC_region ?_
  refine JL_pd rfl (det_move rfl) ?_
  refine JL_pd rfl (det_len rfl Try.runUnderlying32) ?_
  refine JL_pd rfl (det_move rfl) ?_
  refine JL_nil ?_
  refine JE_seq ?_
  refine JC_block ?_
  -- stop: loop
  refine JC_loopF (γ := Nat) (fun i => i ≤ xs.length ∧ (xs.take i).any (fun x => decide (s = x)) = false) (fun i => [(8, I i)]) (fun _ => []) (fun i => xs.length - i) 0 ⟨Nat.zero_le _, rfl⟩ (stsub_consI rfl rfl stsub_nil) ht_nil ?_
  rintro i ⟨hi, hno⟩ K hK
  dsimp only [List.cons_append, List.nil_append]
  refine JC_seq ?_
  refine JC_region ?_
  refine JL_pd rfl (det_lss rfl rfl) ?_
  refine JL_nil ?_
  refine JE_seq ?_
  refine JC_seq ?_
  -- stop: cond
  refine JC_if rfl (fun h1 => ?_) (fun h1 => ?_)
  · have hi2 : i < xs.length := by omega
    refine JC_skip ?_
    refine JE_seq ?_
    refine JC_seq ?_
    refine JC_block ?_
    refine JC_seq ?_
    refine JC_region ?_
    refine JL_pd rfl (det_move rfl) ?_
    refine JL_pd rfl (det_assign rfl) ?_
    refine JL_nil ?_
    refine JE_seq ?_
    refine JC_seq ?_
    refine JC_draw [] (by kernel_rfl) ?_
    refine JA_dt (i := 0) rfl (by kernel_rfl) (by kernel_rfl) rfl rfl (det_loadKA rfl Try.isAgg62 Try.sizeOf62 rfl rfl) ?_
    refine JA_pd (i := 1) rfl (by kernel_rfl) rfl rfl (det_move rfl) ?_
    refine JA_pd (i := 2) rfl (by kernel_rfl) rfl rfl (det_move rfl) ?_
    refine JA_dt (i := 3) rfl (by kernel_rfl) (by kernel_rfl) rfl rfl (det_indexAddr rfl rfl (by first | rfl | omega) (by first | assumption | omega | decide) Try.runUnderlying32 Try.sizeOf62) ?_
    refine JA_dt (i := 4) rfl (by kernel_rfl) (by kernel_rfl) rfl rfl (det_loadEA rfl (by first | assumption | omega | decide) Try.isAgg62 Try.sizeOf62 rfl rfl rfl) ?_
    refine JA_pd (i := 5) rfl (by kernel_rfl) rfl rfl (det_eqlA rfl rfl egt_62 (eqa_62 _ _ _ _)) ?_
    refine JA_done (by kernel_rfl) ?_
    refine JE_seq ?_
    -- stop: cond
    refine JC_cond rfl (fun h2 => ?_) (fun h2 => ?_)
    · refine JC_seq ?_
      refine JC_region ?_
      refine JL_pd rfl (det_move rfl) ?_
      refine JL_pd rfl (det_assign rfl) ?_
      refine JL_nil ?_
      refine JE_seq ?_
      refine JC_ret ?_
      refine JE_block_ret ?_
      refine JE_seq_ret ?_
      refine JE_then_ret ?_
      refine JE_block_ret ?_
      refine JE_seq_ret ?_
      -- stop: out
      refine JE_out (.inl rfl) () (results1 Try.results90 (res_tmp rfl)) (by rw [idxOf_hit hi2 hno (by simpa [Lk.ext'] using h2)]) (List.Perm.refl _) (fun _ _ => trivial)
    · refine JC_skip ?_
      refine JE_block ?_
      refine JE_seq ?_
      refine JC_region ?_
      refine JL_pd rfl (det_add rfl rfl ⟨by omega, by omega⟩) ?_
      refine JL_pd rfl (det_move rfl) ?_
      refine JL_nil ?_
      -- stop: end
      refine JE_roundF hK (i + 1) ⟨by omega, by rw [take_snoc hi2, List.any_append, hno]; simpa [Lk.ext'] using h2⟩ (by omega) (stsub_consI rfl (by omega) stsub_nil) ht_nil
  · refine JC_exit ?_
    refine JE_seq_exit ?_
    refine JE_then_exit ?_
    refine JE_block_here ?_
    refine JE_seq ?_
    refine JC_seq ?_
    refine JC_region ?_
    refine JL_pd rfl (det_assign rfl) ?_
    refine JL_nil ?_
    refine JE_seq ?_
    refine JC_ret ?_
    -- stop: out
    obtain rfl : i = xs.length := by omega
    rw [List.take_length] at hno
    refine JE_out (.inl rfl) () (results1 Try.results90 (res_tmp rfl)) (by rw [idxOf_none hno]) (List.Perm.refl _) (fun _ _ => trivial)
theorem containsLk_j (s : Lk) (a : Option Addr) (cap : Nat) (xs : List Lk) (hl : xs.length ≤ 9223372036854775807) : Cv Try.prog 69 [.slice a xs.length cap, .agg #[I s.sg, I s.at_]] (KSl a xs.length cap encLk xs) (.bool (decide (s ∈ xs))) := by
  refine Cx_of Try.func69 rfl Try.ntmps69 rfl fun w0 M0 => ?_
  refine JC_seq ?_
  refine JC_region ?_
  refine JL_step rfl rfl rfl (jo_box rfl rfl) fun b3 => ?_
  refine JL_pd rfl (det_assign rfl) ?_
  refine JL_nil ?_
  refine JE_seq ?_
  refine JC_seq ?_
  refine JC_region ?_
  refine JL_pd rfl (det_move rfl) ?_
  refine JL_dt rfl (det_loadKA rfl Try.isAgg62 Try.sizeOf62 rfl rfl) ?_
  -- stop: op  2 t7 := (call (Call (value f90) (t5 t6) (32 62)))   <0 1>   118
  refine JL_step rfl rfl rfl (jo_callv rfl rfl Try.call90 rfl (indexLk_j s a cap xs hl)) fun _ => ?_
  refine JL_pd rfl (det_geq rfl rfl) ?_
  refine JL_pd rfl (det_assign rfl) ?_
  refine JL_nil ?_
  refine JE_seq ?_
  refine JC_ret ?_
  -- stop: out
  refine JE_out (.inl rfl) () (results1 Try.results69 (res_tmp rfl)) (by rw [show decide ((0 : Int) ≤ idxOf (fun x => decide (s = x)) xs) = xs.any (fun x => decide (s = x)) from idxOf_any]; congr 1; rw [Bool.eq_iff_iff]; simp) (List.Perm.refl _) (fun _ _ => trivial)
theorem containsLk_x (s : Lk) (u : Value) (xs : List Lk) (hl : xs.length ≤ 9223372036854775807) : Cx Try.prog 69 [u, .agg #[I s.sg, I s.at_]] [ow u 62 2 xs.length (xs.flatMap encLk)] KTrue (fun _ : Unit => .bool (decide (s ∈ xs))) (fun _ => [ow u 62 2 xs.length (xs.flatMap encLk)]) (fun _ => KTrue) :=
  Cx.lendOw (args := fun u => [u, .agg #[I s.sg, I s.at_]]) u xs fun a cap => (containsLk_j s a cap xs hl).mono (fun _ h => h.1) fun _ _ h => h
abbrev wa (a : MA) (ka : Option Addr) (kc : Nat) : MA := ⟨a.sa, a.ra, ka, a.sc, a.rc, kc⟩
instance {α : Type} (R : World → Prop) (enc : α → List Value) : Knows R (KSl none ([] : List α).length 0 enc []) := ⟨fun w _ => ⟨⟨Nat.le_refl _, by simp [maxLen], fun _ => ⟨rfl, rfl⟩, fun h => absurd rfl h⟩, rfl⟩⟩
theorem without_j (m : Mc) (a : MA) (ls : List Lk) (ka : Option Addr) (kc : Nat) : Cv Try.prog 66 [.agg #[I m.states, .slice a.sa m.steps.length a.sc, .slice a.ra m.running.length a.rc, .slice a.ka m.locks.length a.kc], .slice ka ls.length kc] KTrue (.agg #[I m.states, .slice a.sa m.steps.length a.sc, .slice a.ra m.running.length a.rc, .slice ka ls.length kc]) := by
  refine Cx_of Try.func66 rfl Try.ntmps66 rfl fun w0 M0 => ?_
  refine JC_seq ?_
  refine JC_region ?_
  refine JL_step rfl rfl rfl (jo_box rfl rfl) fun b2 => ?_
  refine JL_step rfl rfl rfl (jo_alloc0 Try.zeroValue34 rfl) fun b4 => ?_
  refine JL_nil ?_
  refine JE_seq ?_
  refine JC_seq ?_
  refine JC_region ?_
  refine JL_pd rfl (det_move rfl) ?_
  refine JL_pd rfl (det_fieldAddr rfl fo_34_3) ?_
  refine JL_step0 rfl rfl (jo_store rfl rfl rfl (by first | (simp only [splice_norm]; done) | (simp only [splice_norm]; rfl) | rfl) Try.sizeOf32 rfl rfl) fun _ => ?_
  refine JL_nil ?_
  refine JE_seq ?_
  refine JC_seq ?_
  refine JC_region ?_
  refine JL_dt rfl (det_loadKA rfl Try.isAgg34 Try.sizeOf34 rfl rfl) ?_
  refine JL_step0 rfl rfl (jo_store rfl rfl rfl (by first | (simp only [splice_norm]; done) | (simp only [splice_norm]; rfl) | rfl) Try.sizeOf34 rfl rfl) fun _ => ?_
  refine JL_nil ?_
  refine JE_seq ?_
  refine JC_ret ?_
  -- stop: out
  refine JE_out (.inl rfl) () (results1 Try.results66 (res_box rfl Try.isAgg34 Try.sizeOf34 rfl)) rfl (List.Perm.refl _) (fun _ _ => trivial)
def locksR (m : Mc) : List Lk := (locksO m).getD []
def locksE (m : Mc) : Int := if (locksO m).isSome = true then 0 else 9
theorem egtW : Try.prog.eqGuardType Try.prog.depth 103 = false := by kernel_rfl
theorem dueL_len {m : Mc} (V : Valid m) : (dueL m).length ≤ 34 := by
  have h34 : (((List.range 64).map lk64).filter fun l => decide (6 ≤ l.sg ∨ l.at_ ≤ 2)).length = 34 := by decide +kernel
  rw [← h34]
  refine nodup_len (sorted_nodup (dueL_sorted m)) fun l hl => ?_
  have h1 := List.mem_filter.1 hl
  refine List.mem_filter.2 ⟨h1.1, ?_⟩
  have := need_ok V h1.2
  unfold okLock inI at this
  rw [decide_eq_true_eq]
  split at this
  · omega
  · simp only [Bool.and_eq_true, decide_eq_true_eq] at this; omega
theorem locksO_t {m : Mc} (h : sameW (rchW m (dueL m)) (dueW m) = true) : locksO m = some (dueL m) := if_pos h
theorem locksO_f {m : Mc} (h : sameW (rchW m (dueL m)) (dueW m) = false) : locksO m = none := if_neg (by rw [h]; exact Bool.false_ne_true)
theorem locksR_t {m : Mc} (h : sameW (rchW m (dueL m)) (dueW m) = true) : locksR m = dueL m ∧ locksE m = 0 := by
  unfold locksR locksE
  rw [locksO_t h]
  exact ⟨Option.getD_some, if_pos Option.isSome_some⟩
theorem locksR_f {m : Mc} (h : sameW (rchW m (dueL m)) (dueW m) = false) : locksR m = [] ∧ locksE m = 9 := by
  unfold locksR locksE
  rw [locksO_f h]
  exact ⟨Option.getD_none, if_neg (by rw [Option.isSome_none]; exact Bool.false_ne_true)⟩
theorem dueD {m : Mc} (V : Valid m) : ∃ D : List Lk, (∀ l, l ∈ D ↔ needB m l = true) ∧ (D.Pairwise fun x y => lessLk x y = true) ∧ D.length ≤ 34 ∧ (sameW (rchW m D) (dueW m) = true → locksR m = D ∧ locksE m = 0) ∧ (sameW (rchW m D) (dueW m) = false → locksR m = [] ∧ locksE m = 9) :=
  ⟨dueL m, fun _ => mem_dueL V, dueL_sorted m, dueL_len V, locksR_t, locksR_f⟩
theorem vis_rch {m : Mc} {ls : List Lk} (V : Valid (wo m ls)) {w' : Nat → Bool} (h : Vis (wo m ls) (fun _ => false) ⟨0, 0⟩ w') (j : Nat) (hj : j < 24) : w' j = rchW m ls j := by
  rw [Bool.eq_iff_iff, h.all V hj]
  show _ ↔ decide (sdOf j ∈ reachL m ls) = true
  rw [decide_eq_true_eq, ← reachL_wo m ls ls, ← mem_reachL V]
theorem Locks_je (m : Mc) (a : MA) (he : fault m ≠ 0) : Cv Try.prog 32 [.agg #[I m.states, .slice a.sa m.steps.length a.sc, .slice a.ra m.running.length a.rc, .slice a.ka m.locks.length a.kc]] (KMc m a) (.tuple #[.slice none 0 0, I (fault m)]) := by
  refine Cx_of Try.func32 rfl Try.ntmps32 rfl fun w0 M0 => ?_
  refine JC_seq ?_
  refine JC_region ?_
  refine JL_step rfl rfl rfl (jo_box rfl rfl) fun b1 => ?_
  refine JL_pd rfl (det_assign rfl) ?_
  refine JL_pd rfl (det_assign rfl) ?_
  refine JL_nil ?_
  refine JE_seq ?_
  refine JC_seq ?_
  refine JC_seq ?_
  refine JC_region ?_
  refine JL_dt rfl (det_loadKA rfl Try.isAgg34 Try.sizeOf34 rfl rfl) ?_
  refine JL_step rfl rfl rfl (jo_callv rfl rfl Try.call19 rfl (CheckMachine_j m a)) fun _ => ?_
  refine JL_pd rfl (det_assign rfl) ?_
  refine JL_nil ?_
  refine JE_seq ?_
  refine JC_seq ?_
  refine JC_region ?_
  refine JL_pd rfl (det_move rfl) ?_
  refine JL_pd rfl (det_neq rfl rfl) ?_
  refine JL_nil ?_
  refine JE_seq ?_
  -- stop: cond
  refine JC_ifn rfl (fun h1 => ?_) (fun h1 => ?_)
  · refine JC_seq ?_
    refine JC_region ?_
    refine JL_pd rfl (det_move rfl) ?_
    refine JL_pd rfl (det_assign rfl) ?_
    refine JL_pd rfl (det_assign rfl) ?_
    refine JL_nil ?_
    refine JE_seq ?_
    refine JC_ret ?_
    refine JE_seq_ret ?_
    -- stop: out
    refine JE_out (.inl rfl) () (results2 Try.results32 (res_tmp rfl) (res_tmp rfl)) rfl (List.Perm.refl _) (fun _ _ => trivial)
  · exact absurd h1 he
set_option maxRecDepth 100000 in
set_option maxHeartbeats 2000000 in
theorem Locks_jo (m : Mc) (a : MA) (he : fault m = 0) : Cr Try.prog 32 [.agg #[I m.states, .slice a.sa m.steps.length a.sc, .slice a.ra m.running.length a.rc, .slice a.ka m.locks.length a.kc]] (KMc m a) (fun q : Option Addr × Nat => .tuple #[.slice q.1 (locksR m).length q.2, I (locksE m)]) (fun q => KSl q.1 (locksR m).length q.2 encLk (locksR m)) := by
  have V := valid_of he
  have hst := V.ns
  have hrn := V.nr
  have s2 := V.s2
  have V0 : Valid (wo m []) := V.wo (by simp) (by simp)
  have hwr : ∀ w' : { w' // Vis (wo m []) (fun _ => false) ⟨0, 0⟩ w' }, Cr Try.prog 61 [.agg (encW 24 w'.1).toArray] KTrue (fun q : Option Addr × Nat => .slice q.1 (reachL m []).length q.2) (fun q => KSl q.1 (reachL m []).length q.2 encSd (reachL m [])) := fun w' => by
    have := wreach_j (wo m []) V0 w'
    rwa [show (wo m []).locks = [] from rfl, reachL_wo] at this
  have hrl : ∀ s, s ∈ reachL m [] → InM m s := fun s hs => by
    obtain ⟨a, b, c, d⟩ := ((mem_reachL V).1 hs).inM V
    exact ⟨a, b, c, d⟩
  have hl24 := reach_len m []
  have hdone := fun xs (h : LkI m (reachL m []) (reachL m []).length 0 [] xs) => h.done
  have hLl := fun i g p xs (hg : g < 8) (h : LkI m (reachL m []) i g p xs) (hp : ∀ s, (reachL m [])[i]? = some s → ∀ t ∈ p, t ∈ moves m s (g : Int)) => h.len V (by omega) (s := ⟨0, 0⟩) (.inl hg) hp
  have hdueW : ∀ j, dueW m j = (decide (sdOf j ∈ reachL m []) && !dangerB m (sdOf j)) := fun j => rfl
  generalize hLdef : reachL m [] = L at hwr hrl hl24 hdone hLl hdueW
  obtain ⟨D, hDm, hDs, hDl, hD1, hD2⟩ := dueD V
  refine Cx_of Try.func32 rfl Try.ntmps32 rfl fun w0 M0 => ?_
  refine JC_seq ?_
  refine JC_region ?_
  refine JL_step rfl rfl rfl (jo_box rfl rfl) fun b1 => ?_
  refine JL_pd rfl (det_assign rfl) ?_
  refine JL_pd rfl (det_assign rfl) ?_
  refine JL_nil ?_
  refine JE_seq ?_
  refine JC_seq ?_
  refine JC_seq ?_
  refine JC_region ?_
  refine JL_dt rfl (det_loadKA rfl Try.isAgg34 Try.sizeOf34 rfl rfl) ?_
  refine JL_step rfl rfl rfl (jo_callv rfl rfl Try.call19 rfl (CheckMachine_j m a)) fun _ => ?_
  refine JL_pd rfl (det_assign rfl) ?_
  refine JL_nil ?_
  refine JE_seq ?_
  refine JC_seq ?_
  refine JC_region ?_
  refine JL_pd rfl (det_move rfl) ?_
  refine JL_pd rfl (det_neq rfl rfl) ?_
  refine JL_nil ?_
  refine JE_seq ?_
  -- stop: cond
  refine JC_ifn rfl (fun h1 => ?_) (fun h1 => ?_)
  · exact absurd he h1
  · refine JC_skip ?_
    refine JE_seq ?_
    refine JC_seq ?_
    refine JC_region ?_
    refine JL_dt rfl (det_loadKA rfl Try.isAgg34 Try.sizeOf34 rfl rfl) ?_
    -- stop: op  1 t21 := (call (Call (value f66) (t20 (slice none 0 0)) (34 32)))   <0>   21
    refine JL_step rfl rfl rfl (jo_callv rfl rfl Try.call66 rfl (without_j m a [] none 0)) fun _ => ?_
    -- stop: op  2 t22 := (call (Call (value f59) (t21) (34)))   <1 1>   21
    refine JL_step rfl rfl rfl (jo_call rfl rfl Try.call59 rfl (hall_j (wo m []) (wa a none 0) (by simp))) fun ⟨hb, mb⟩ => ?_
    -- stop: op  3 t23 := (call (Call (value f60) (t22) (104)))   <2 2>   21
    refine JL_step rfl rfl rfl (jo_call rfl rfl Try.call60 rfl (reach_j (wo m []) (wa a none 0) hb mb V0)) fun w' => ?_
    refine JL_step rfl rfl rfl (jo_alloc0 Try.zeroValue103 rfl) fun b5 => ?_
    refine JL_step0 rfl rfl (jo_store (vs := encW 24 w'.1) rfl rfl rfl (splice_whole (by rw [encW_len]; rfl)) Try.sizeOf103 (Nat.ble_eq_true_of_le (by rw [encW_len]; decide)) (encW_cells 24 _)) fun _ => ?_
    refine JL_nil ?_
    refine JE_seq ?_
    refine JC_seq ?_
    refine JC_region ?_
    refine JL_step rfl rfl rfl (jo_alloc0 Try.zeroValue32 rfl) fun b6 => ?_
    refine JL_nil ?_
    refine JE_seq ?_
    refine JC_seq ?_
    refine JC_seq ?_
    refine JC_region ?_
    refine JL_dt rfl (det_loadKA (vs := encW 24 w'.1) rfl Try.isAgg103 Try.sizeOf103 (by rw [List.drop_zero]; exact List.take_of_length_le (by rw [encW_len]; decide)) (encW_len 24 _)) ?_
    -- stop: op  1 t25 := (call (Call (value f61) (t24) (103)))   <0>   23
    refine JL_step rfl rfl rfl (jo_call rfl rfl Try.call61 rfl (hwr w')) fun ⟨la, lc⟩ => ?_
    refine JL_pd rfl (det_len rfl Try.runUnderlying36) ?_
    refine JL_pd rfl (det_move rfl) ?_
    refine JL_nil ?_
    refine JE_seq ?_
    refine JC_block ?_
    -- stop: loop
    refine JC_keep b1 noFp ?_
    refine JC_keep b5 noFp ?_
    refine JC_nil 62 2 ?_
    refine JC_loopF (γ := Nat × Value × List Lk) (fun q => q.1 ≤ L.length ∧ LkI m L q.1 0 [] q.2.2) (fun q => [(27, I q.1)]) (fun q => [bx b6 [q.2.1], ow q.2.1 62 2 q.2.2.length (q.2.2.flatMap encLk)]) (fun q => L.length - q.1) (0, .slice none 0 0, []) ⟨Nat.zero_le _, LkI.zero m L⟩ (stsub_consI rfl rfl stsub_nil) (show HTake _ [bx b6 [.slice none 0 0], ow (.slice none 0 0) 62 2 0 []] _ from ht_cons (ht_cons ht_nil)) ?_
    rintro ⟨i, v, xs⟩ ⟨hi, hx⟩ K hK
    dsimp only [List.cons_append, List.nil_append] at hi hx ⊢
    refine JC_seq ?_
    refine JC_region ?_
    refine JL_pd rfl (det_lss rfl rfl) ?_
    refine JL_nil ?_
    refine JE_seq ?_
    refine JC_seq ?_
    -- stop: cond
    refine JC_if rfl (fun h2 => ?_) (fun h2 => ?_)
    · have hi2 : i < L.length := by omega
      have hs : L[i]? = some L[i] := List.getElem?_eq_getElem hi2
      have hin := hrl _ (List.getElem_mem hi2)
      generalize hse : L[i] = s at hs hin
      refine JC_skip ?_
      refine JE_seq ?_
      refine JC_seq ?_
      refine JC_block ?_
      refine JC_seq ?_
      refine JC_region ?_
      refine JL_dt rfl (det_indexAddr rfl rfl (by first | rfl | omega) (by first | assumption | omega | decide) Try.runUnderlying36 Try.sizeOf77) ?_
      refine JL_dt rfl (det_loadEA (vs := [I s.st, I s.sp]) rfl (by first | assumption | omega | decide) Try.isAgg77 Try.sizeOf77 rfl (by rw [← hse]; rfl) rfl) ?_
      refine JL_step rfl rfl rfl (jo_alloc0 Try.zeroValue77 rfl) fun b8 => ?_
      refine JL_step0 rfl rfl (jo_store rfl rfl rfl (by first | (simp only [splice_norm]; done) | (simp only [splice_norm]; rfl) | rfl) Try.sizeOf77 rfl rfl) fun _ => ?_
      refine JL_nil ?_
      refine JE_seq ?_
      refine JC_seq ?_
      refine JC_region ?_
      refine JL_pd rfl (det_move rfl) ?_
      refine JL_nil ?_
      refine JE_seq ?_
      refine JC_block ?_
      -- stop: loop
      refine JC_keep b8 noFp ?_
      refine JC_loopF (γ := Nat × Value × List Lk) (fun q => q.1 ≤ 8 ∧ LkI m L i q.1 [] q.2.2) (fun q => [(31, I q.1)]) (fun q => [bx b6 [q.2.1], ow q.2.1 62 2 q.2.2.length (q.2.2.flatMap encLk)]) (fun q => 8 - q.1) (0, v, xs) ⟨Nat.zero_le _, hx⟩ (stsub_consI rfl rfl stsub_nil) (ht_cons (ht_cons ht_nil)) ?_
      rintro ⟨g, v1, xs1⟩ ⟨hg, hx1⟩ K2 hK2
      dsimp only [List.cons_append, List.nil_append] at hg hx1 ⊢
      refine JC_seq ?_
      refine JC_region ?_
      refine JL_pd rfl (det_lss rfl rfl) ?_
      refine JL_nil ?_
      refine JE_seq ?_
      refine JC_seq ?_
      -- stop: cond
      refine JC_if rfl (fun h3 => ?_) (fun h3 => ?_)
      · have hg2 : g < 8 := by omega
        refine JC_skip ?_
        refine JE_seq ?_
        refine JC_seq ?_
        refine JC_block ?_
        refine JC_seq ?_
        refine JC_region ?_
        refine JL_pd rfl (det_move rfl) ?_
        refine JL_step rfl rfl rfl (jo_alloc0 Try.zeroValue3 rfl) fun b9 => ?_
        refine JL_step0 rfl rfl (jo_store rfl rfl rfl (by first | (simp only [splice_norm]; done) | (simp only [splice_norm]; rfl) | rfl) Try.sizeOf3 rfl rfl) fun _ => ?_
        refine JL_nil ?_
        refine JE_seq ?_
        refine JC_seq ?_
        refine JC_region ?_
        refine JL_dt rfl (det_loadKA rfl Try.isAgg34 Try.sizeOf34 rfl rfl) ?_
        refine JL_dt rfl (det_loadKA rfl Try.isAgg77 Try.sizeOf77 rfl rfl) ?_
        refine JL_dt rfl (det_loadK rfl Try.isAgg3 rfl) ?_
        refine JL_step rfl rfl rfl (jo_call rfl rfl Try.call67 rfl (moves_j m a s _)) fun x37 => ?_
        refine JL_nil ?_
        refine JE_seq ?_
        refine JC_block ?_
        -- stop: rangeFunc
        have hit := moves_it m a s (g : Int) x37.1 x37.2.1 x37.2.2 (by omega) (by obtain ⟨_, _, q1, q2⟩ := hin; omega)
        refine JC_keep b9 noFp ?_
        refine JC_rangeI (γ := Value × List Lk) (β := Nat) rfl rfl rfl rfl Try.call88 hit (perm2 (bx b6 [v1]) (ow v1 62 2 xs1.length (xs1.flatMap encLk))) (fun w _ h => Knows.know w h) (fun _ => rfl) ?_
          (fun p q => LkI m L i g p q.2) (fun _ _ _ => False) (fun q => [bx b6 [q.1], ow q.1 62 2 q.2.length (q.2.flatMap encLk)]) (v1, xs1) hx1 rfl
          (fun x t => [(10, pt t), (8, pt b8), (9, pt b9), (1, pt b1), (6, pt b6)]) (fun x t => [bx t [I x.st, I x.sp]]) ?_ ?_ ?_ ?_
        · show ∀ p ∈ [38], p < 91
          decide
        · intro l' x W K0 hK0
          refine JC_region ?_
          refine JL_step rfl rfl rfl (jo_alloc0 Try.zeroValue77 rfl) fun b10 => ?_
          refine JL_step0 rfl rfl (jo_store rfl rfl rfl (by first | (simp only [splice_norm]; done) | (simp only [splice_norm]; rfl) | rfl) Try.sizeOf77 rfl rfl) fun _ => ?_
          refine JL_nil ?_
          -- stop: end
          exact JE_asg (hK0 b10) (stsub_cons rfl (stsub_cons rfl (stsub_cons rfl (stsub_cons rfl (stsub_cons rfl stsub_nil))))) (hsub_cons hsub_nil) (fun _ h => trivial)
        · rintro l' p x ⟨v2, xs2⟩ t W K1 QX hx2 hpx hK1 _
          dsimp only at hx2
          dsimp only [List.cons_append, List.nil_append]
          have hpm : ∀ s', L[i]? = some s' → ∀ t ∈ p, t ∈ moves m s' (g : Int) := fun s' hs' t ht => by
            rw [hs] at hs'; cases hs'
            exact hpx.subset (List.mem_append.2 (.inl ht))
          have hlx := (hLl i g p xs2 hg2 hx2 hpm).1
          refine JC_block ?_
          refine JC_seq ?_
          refine JC_region ?_
          refine JL_dt rfl (det_loadKA rfl Try.isAgg77 Try.sizeOf77 rfl rfl) ?_
          refine JL_dt rfl (det_loadK rfl Try.isAgg3 rfl) ?_
          refine JL_step rfl rfl rfl (jo_callv rfl rfl Try.call68 rfl (at_j s g)) fun _ => ?_
          refine JL_step rfl rfl rfl (jo_alloc0 Try.zeroValue62 rfl) fun b11 => ?_
          refine JL_step0 rfl rfl (jo_store rfl rfl rfl (by first | (simp only [splice_norm]; done) | (simp only [splice_norm]; rfl) | rfl) Try.sizeOf62 rfl rfl) fun _ => ?_
          refine JL_nil ?_
          refine JE_seq ?_
          refine JC_seq ?_
          refine JC_region ?_
          refine JL_dt rfl (det_loadKA rfl Try.isAgg34 Try.sizeOf34 rfl rfl) ?_
          refine JL_dt rfl (det_loadKA rfl Try.isAgg77 Try.sizeOf77 rfl rfl) ?_
          refine JL_step rfl rfl rfl (jo_callv rfl rfl Try.call63 rfl (danger_j m a _ (by omega))) fun _ => ?_
          refine JL_pd rfl (det_not rfl) ?_
          refine JL_pd rfl (det_move rfl) ?_
          -- stop: guard 4
          refine JL_split (d0 := 46) rfl (fun k1 => ?_) (fun k1 => ?_)
          · have k1' : dangerB m s = false := by simpa using k1
            refine JL_guard rfl rfl k1 ?_
            refine JL_dt rfl (det_loadKA rfl Try.isAgg34 Try.sizeOf34 rfl rfl) ?_
            refine JL_guard rfl rfl k1 ?_
            refine JL_dt rfl (det_loadKA rfl Try.isAgg77 Try.sizeOf77 rfl rfl) ?_
            refine JL_guard rfl rfl k1 ?_
            refine JL_step rfl rfl rfl (jo_callv rfl rfl Try.call63 rfl (danger_j m a _ (by omega))) fun _ => ?_
            refine JL_pd rfl (det_pick_t rfl k1 rfl) ?_
            refine JL_pd rfl (det_move rfl) ?_
            -- stop: guard 9
            refine JL_split (d0 := 51) rfl (fun k2 => ?_) (fun k2 => ?_)
            · refine JL_guard rfl rfl k2 ?_
              refine JL_dt rfl (det_loadK rfl Try.isAgg32 rfl) ?_
              refine JL_guard rfl rfl k2 ?_
              refine JL_dt rfl (det_loadKA rfl Try.isAgg62 Try.sizeOf62 rfl rfl) ?_
              refine JL_guard rfl rfl k2 ?_
              refine JL_step rfl rfl rfl (jo_callx rfl rfl Try.call69 rfl (containsLk_x (lockAt s g) v2 xs2 (by omega)) (pick_perm)) fun x54 => ?_
              refine JL_guard rfl rfl k2 ?_
              refine JL_pd rfl (det_not rfl) ?_
              refine JL_pd rfl (det_pick_t rfl k2 rfl) ?_
              refine JL_nil ?_
              refine JE_seq ?_
              -- stop: cond
              refine JC_cond rfl (fun k3 => ?_) (fun k3 => ?_)
              · have k3' : lockAt s (g : Int) ∉ xs2 := by simpa using k3
                refine JC_region ?_
                refine JL_dt rfl (det_loadK rfl Try.isAgg32 rfl) ?_
                refine JL_dt rfl (det_loadKA rfl Try.isAgg62 Try.sizeOf62 rfl rfl) ?_
                refine JL_step rfl rfl rfl (jo_buildSlice rfl (bsl_32_1_0 _ _)) fun b59 => ?_
                refine JL_step rfl rfl rfl (jo_append el_32 rfl rfl rfl rfl (by omega)) fun b60 => ?_
                refine JL_step0 rfl rfl (jo_store rfl rfl rfl (by first | (simp only [splice_norm]; done) | (simp only [splice_norm]; rfl) | rfl) Try.sizeOf32 rfl rfl) fun _ => ?_
                refine JL_nil ?_
                refine JE_block ?_
                -- stop: end
                refine JE_next (fun st' R' a' W' => hK1 (.slice (some ⟨b60.1, 0, none⟩) (xs2.length + 1) b60.2, xs2 ++ [lockAt s (g : Int)]) (hx2.add hs k1' k2 k3') st' R' a' W') ⟨_, ht_cons (ht_ow (by simp) (by simp [encLk]) ht_nil)⟩
              · have k3' : lockAt s (g : Int) ∈ xs2 := by simpa using k3
                refine JC_skip ?_
                refine JE_block ?_
                -- stop: end
                refine JE_next (fun st' R' a' W' => hK1 (v2, xs2) (hx2.skip hs (.inr (.inr k3'))) st' R' a' W') ⟨_, ht_cons (ht_cons ht_nil)⟩
            · refine JL_skip rfl rfl k2 rfl ?_
              refine JL_skip rfl rfl k2 rfl ?_
              refine JL_skip rfl rfl k2 rfl ?_
              refine JL_skip rfl rfl k2 rfl ?_
              refine JL_pd rfl (det_pick_f rfl k2 rfl) ?_
              refine JL_nil ?_
              refine JE_seq ?_
              refine JC_condF rfl rfl ?_
              refine JC_skip ?_
              refine JE_block ?_
              -- stop: end
              refine JE_next (fun st' R' a' W' => hK1 (v2, xs2) (hx2.skip hs (.inr (.inl k2))) st' R' a' W') ⟨_, ht_cons (ht_cons ht_nil)⟩
          · have k1' : dangerB m s = true := by simpa using k1
            refine JL_skip rfl rfl k1 rfl ?_
            refine JL_skip rfl rfl k1 rfl ?_
            refine JL_skip rfl rfl k1 rfl ?_
            refine JL_pd rfl (det_pick_f rfl k1 rfl) ?_
            refine JL_pd rfl (det_move rfl) ?_
            refine JL_skip rfl rfl rfl rfl ?_
            refine JL_skip rfl rfl rfl rfl ?_
            refine JL_skip rfl rfl rfl rfl ?_
            refine JL_skip rfl rfl rfl rfl ?_
            refine JL_pd rfl (det_pick_f rfl rfl rfl) ?_
            refine JL_nil ?_
            refine JE_seq ?_
            refine JC_condF rfl rfl ?_
            refine JC_skip ?_
            refine JE_block ?_
            -- stop: end
            refine JE_next (fun st' R' a' W' => hK1 (v2, xs2) (hx2.skip hs (.inl k1')) st' R' a' W') ⟨_, ht_cons (ht_cons ht_nil)⟩
        · rintro ⟨v2, xs2⟩ hx2
          refine JE_block ?_
          refine JE_block ?_
          refine JE_seq ?_
          refine JC_region ?_
          refine JL_pd rfl (det_add rfl rfl ⟨by omega, by omega⟩) ?_
          refine JL_pd rfl (det_move rfl) ?_
          refine JL_nil ?_
          -- stop: end
          refine JE_roundF hK2 (g + 1, v2, xs2) ⟨by simp only; omega, hx2.next hs⟩ (by simp only; omega) (stsub_consI rfl (by simp only; omega) stsub_nil) (ht_cons (ht_cons ht_nil))
        · rintro cd p w3 _ h
          exact h.elim
      · obtain rfl : g = 8 := by omega
        refine JC_exit ?_
        refine JE_seq_exit ?_
        refine JE_then_exit ?_
        refine JE_block_here ?_
        refine JE_block ?_
        refine JE_seq ?_
        refine JC_region ?_
        refine JL_pd rfl (det_add rfl rfl ⟨by omega, by omega⟩) ?_
        refine JL_pd rfl (det_move rfl) ?_
        refine JL_nil ?_
        -- stop: end
        refine JE_roundF hK (i + 1, v1, xs1) ⟨by simp only; omega, hx1.after hs⟩ (by simp only; omega) (stsub_consI rfl (by simp only; omega) stsub_nil) (ht_cons (ht_cons ht_nil))
    · obtain rfl : i = L.length := by omega
      have hmem := hdone _ hx
      have hnd := hx.nd
      have hlen : xs.length ≤ 64 ∧ ∀ l ∈ xs, okLock m l = true := hLl L.length 0 [] xs (by omega) hx (fun _ _ _ h => by cases h)
      have hok : ∀ l ∈ xs, okL l := fun l hl => by
        have := hlen.2 l hl
        unfold okLock inI at this
        unfold okL
        split at this
        · simp only [decide_eq_true_eq] at this; omega
        · simp only [Bool.and_eq_true, decide_eq_true_eq] at this; omega
      refine JC_exit ?_
      refine JE_seq_exit ?_
      refine JE_then_exit ?_
      refine JE_block_here ?_
      refine JE_seq ?_
      refine JC_seq ?_
      refine JC_region ?_
      refine JL_dt rfl (det_loadK rfl Try.isAgg32 rfl) ?_
      -- stop: op  1 t64 := (call (Call (value f70) (t63 f71) (32 120)))   <0>   32
      refine JL_step rfl rfl rfl (jo_callx rfl rfl Try.call70 rfl (sortLk_x v xs hok hnd (by omega)) (pick_perm)) fun ⟨tl, htp, hts⟩ => ?_
      refine JL_nil ?_
      refine JE_seq ?_
      refine JC_seq ?_
      refine JC_region ?_
      refine JL_step rfl rfl rfl (jo_alloc0 Try.zeroValue103 rfl) fun b12 => ?_
      refine JL_nil ?_
      refine JE_seq ?_
      refine JC_seq ?_
      refine JC_seq ?_
      refine JC_region ?_
      refine JL_dt rfl (det_loadKA rfl Try.isAgg103 Try.sizeOf103 rfl rfl) ?_
      -- stop: op  1 t66 := (call (Call (value f61) (t65) (103)))   <0>   34
      have htl : D = tl := (sorted_eq hts hDs fun x => htp.mem_iff.trans ((hmem x).trans (hDm x).symm)).symm
      subst htl
      refine JL_step rfl rfl rfl (jo_call rfl rfl Try.call61 rfl (hwr w')) fun ⟨la2, lc2⟩ => ?_
      refine JL_pd rfl (det_len rfl Try.runUnderlying36) ?_
      refine JL_pd rfl (det_move rfl) ?_
      refine JL_nil ?_
      refine JE_seq ?_
      refine JC_block ?_
      -- stop: loop
      dsimp only [List.cons_append, List.nil_append]
      refine JC_kl (enc := encLk) v D noFp ?_
      rintro ka kc rfl
      refine JC_keep b6 noFp ?_
      refine JC_loopF (γ := Nat × (Nat → Bool)) (fun q => q.1 ≤ L.length ∧ ∀ j, j < 24 → q.2 j = (decide (sdOf j ∈ L.take q.1) && !dangerB m (sdOf j))) (fun q => [(68, I q.1)]) (fun q => [bx b12 (encW 24 q.2)]) (fun q => L.length - q.1) (0, fun _ => false) ⟨Nat.zero_le _, fun j _ => by simp⟩ (stsub_consI rfl rfl stsub_nil) (ht_bx rfl ht_nil) ?_
      rintro ⟨q, W⟩ ⟨hq, hW⟩ K2 hK2
      dsimp only [List.cons_append, List.nil_append] at hq hW ⊢
      refine JC_seq ?_
      refine JC_region ?_
      refine JL_pd rfl (det_lss rfl rfl) ?_
      refine JL_nil ?_
      refine JE_seq ?_
      refine JC_seq ?_
      -- stop: cond
      refine JC_if rfl (fun h6 => ?_) (fun h6 => ?_)
      · have hq2 : q < L.length := by omega
        have hxin := hrl _ (List.getElem_mem hq2)
        have htk := take_snoc hq2
        generalize hse : L[q] = x at hxin htk
        have hixx := hxin.ix V
        have hix := hixx.1
        obtain ⟨p1, p2, p3, p4⟩ := hxin
        have hoff : 0 + x.st.toNat * 3 + x.sp.toNat * 1 = ix x := by unfold ix; omega
        refine JC_skip ?_
        refine JE_seq ?_
        refine JC_seq ?_
        refine JC_block ?_
        refine JC_seq ?_
        refine JC_region ?_
        refine JL_dt rfl (det_indexAddr rfl rfl (by first | rfl | omega) (by first | assumption | omega | decide) Try.runUnderlying36 Try.sizeOf77) ?_
        refine JL_dt rfl (det_loadEA (vs := [I x.st, I x.sp]) rfl (by first | assumption | omega | decide) Try.isAgg77 Try.sizeOf77 rfl (by rw [← hse]; rfl) rfl) ?_
        refine JL_step rfl rfl rfl (jo_alloc0 Try.zeroValue77 rfl) fun b14 => ?_
        refine JL_step0 rfl rfl (jo_store rfl rfl rfl (by first | (simp only [splice_norm]; done) | (simp only [splice_norm]; rfl) | rfl) Try.sizeOf77 rfl rfl) fun _ => ?_
        refine JL_nil ?_
        refine JE_seq ?_
        refine JC_draw [10] (by kernel_rfl) ?_
        refine JA_pd (i := 0) rfl (by kernel_rfl) rfl rfl (det_fieldAddr rfl fo_77_0) ?_
        refine JA_dt (i := 1) rfl (by kernel_rfl) (by kernel_rfl) rfl rfl (det_loadK rfl Try.isAgg3 rfl) ?_
        refine JA_pd (i := 2) rfl (by kernel_rfl) rfl rfl (det_fieldAddr rfl fo_77_1) ?_
        refine JA_dt (i := 3) rfl (by kernel_rfl) (by kernel_rfl) rfl rfl (det_loadK rfl Try.isAgg3 rfl) ?_
        refine JA_dt (i := 4) rfl (by kernel_rfl) (by kernel_rfl) rfl rfl (det_loadKA rfl Try.isAgg34 Try.sizeOf34 rfl rfl) ?_
        refine JA_dt (i := 5) rfl (by kernel_rfl) (by kernel_rfl) rfl rfl (det_loadKA rfl Try.isAgg77 Try.sizeOf77 rfl rfl) ?_
        refine JA_pd (i := 8) rfl (by kernel_rfl) rfl rfl (det_indexArr (i := x.st.toNat) rfl rfl (by omega) (by omega) Try.runUnderlying103 Try.sizeOf43) ?_
        refine JA_one (i := 6) (by kernel_rfl) rfl rfl (jo_callv rfl rfl Try.call63 rfl (danger_j m a _ (by omega))) (fun _ => ⟨hsub_refl, fun _ h => h⟩) fun _ => ?_
        refine JA_pd (i := 7) rfl (by kernel_rfl) rfl rfl (det_not rfl) ?_
        refine JA_pd (i := 9) rfl (by kernel_rfl) rfl rfl (det_indexArr (i := x.sp.toNat) rfl rfl (by omega) (by omega) Try.runUnderlying43 Try.sizeOf4) ?_
        refine JA_tail (i := 10) (by kernel_rfl) rfl rfl rfl rfl (jo_store (vs := [.bool (!dangerB m x)]) (cs := encW 24 W) (cs' := encW 24 (updW W (ix x) (!dangerB m x))) rfl rfl rfl (by rw [hoff]; exact encW_set 24 _ (ix x) _) Try.sizeOf4 (Nat.ble_eq_true_of_le (by rw [encW_len, hoff]; exact hix)) rfl) fun _ => ?_
        refine JT_done (by kernel_rfl) ?_
        refine JE_block ?_
        refine JE_seq ?_
        refine JC_region ?_
        refine JL_pd rfl (det_add rfl rfl ⟨by omega, by omega⟩) ?_
        refine JL_pd rfl (det_move rfl) ?_
        refine JL_nil ?_
        -- stop: end
        refine JE_roundF hK2 (q + 1, updW W (ix x) (!dangerB m x)) ⟨by simp only; omega, fun j hj => ?_⟩ (by simp only; omega) (stsub_consI rfl (by simp only; omega) stsub_nil) (ht_cons ht_nil)
        show (if j = ix x then (!dangerB m x) else W j) = (decide (sdOf j ∈ L.take (q + 1)) && !dangerB m (sdOf j))
        rw [htk]
        by_cases e : j = ix x
        · subst e; rw [if_pos rfl, hixx.2]; simp
        · rw [if_neg e, hW j hj]
          have : sdOf j ≠ x := fun h2 => e (by rw [← h2, ix_sd])
          simp [this]
      · obtain rfl : q = L.length := by omega
        rw [List.take_length] at hW
        have V1 : Valid (wo m D) := V.wo (by omega) fun l hl => need_ok V ((hDm l).1 hl)
        refine JC_exit ?_
        refine JE_seq_exit ?_
        refine JE_then_exit ?_
        refine JE_block_here ?_
        refine JE_seq ?_
        refine JC_seq ?_
        refine JC_seq ?_
        refine JC_draw [] (by kernel_rfl) ?_
        refine JA_dt (i := 0) rfl (by kernel_rfl) (by kernel_rfl) rfl rfl (det_loadKA rfl Try.isAgg34 Try.sizeOf34 rfl rfl) ?_
        refine JA_dt (i := 1) rfl (by kernel_rfl) (by kernel_rfl) rfl rfl (det_loadK rfl Try.isAgg32 rfl) ?_
        refine JA_dt (i := 5) rfl (by kernel_rfl) (by kernel_rfl) rfl rfl (det_loadKA (vs := encW 24 W) rfl Try.isAgg103 Try.sizeOf103 (by rw [List.drop_zero]; exact List.take_of_length_le (by rw [encW_len]; decide)) (encW_len 24 _)) ?_
        refine JA_one (i := 2) (by kernel_rfl) rfl rfl (jo_callv rfl rfl Try.call66 rfl (without_j m a D ka kc)) (fun _ => ⟨hsub_refl, fun _ h => h⟩) fun _ => ?_
        refine JA_one (i := 3) (by kernel_rfl) rfl rfl (jo_call rfl rfl Try.call59 rfl (hall_j (wo m D) (wa a ka kc) (by show D.length ≤ 1000; omega))) (fun _ => ⟨hsub_drop 0 rfl, fun _ h => h.2⟩) fun x86 => ?_
        refine JA_one (i := 4) (by kernel_rfl) rfl rfl (jo_call rfl rfl Try.call60 rfl (reach_j (wo m D) (wa a ka kc) x86.1 x86.2 V1)) (fun _ => ⟨hsub_drop 0 rfl, fun _ h => h.2⟩) fun x87 => ?_
        refine JA_pd (i := 6) rfl (by kernel_rfl) rfl rfl (det_neqA rfl rfl egtW (eqW2 Try.underlying103 x87.1 W)) ?_
        refine JA_done (by kernel_rfl) ?_
        refine JE_seq ?_
        -- stop: cond
        have hsame : sameW x87.1 W = sameW (rchW m D) (dueW m) := by
          have e : ∀ j, j < 24 → x87.1 j = rchW m D j := vis_rch V1 x87.2
          have e2 : ∀ j, j < 24 → W j = dueW m j := fun j hj => by rw [hW j hj, hdueW]
          rw [Bool.eq_iff_iff, sameW_iff, sameW_iff]
          exact ⟨fun h j hj => by rw [← e j hj, ← e2 j hj]; exact h j hj, fun h j hj => by rw [e j hj, e2 j hj]; exact h j hj⟩
        rw [hsame]
        refine JC_cond rfl (fun h7 => ?_) (fun h7 => ?_)
        · obtain ⟨hR1, hR2⟩ := hD2 (by simpa using h7)
          rw [hR1, hR2]
          refine JC_seq ?_
          refine JC_region ?_
          refine JL_pd rfl (det_assign rfl) ?_
          refine JL_pd rfl (det_assign rfl) ?_
          refine JL_nil ?_
          refine JE_seq ?_
          refine JC_ret ?_
          refine JE_seq_ret ?_
          -- stop: out
          refine JE_out (.inl rfl) (none, 0) (results2 Try.results32 (res_tmp rfl) (res_tmp rfl)) rfl (List.Perm.refl _) (fun w _ => ⟨⟨Nat.le_refl _, by decide, fun _ => ⟨rfl, rfl⟩, fun h => absurd rfl h⟩, rfl⟩)
        · obtain ⟨hR1, hR2⟩ := hD1 (by simpa using h7)
          rw [hR1, hR2]
          refine JC_skip ?_
          refine JE_seq ?_
          refine JC_seq ?_
          refine JC_region ?_
          refine JL_dt rfl (det_loadK rfl Try.isAgg32 rfl) ?_
          refine JL_pd rfl (det_assign rfl) ?_
          refine JL_pd rfl (det_assign rfl) ?_
          refine JL_nil ?_
          refine JE_seq ?_
          refine JC_ret ?_
          -- stop: out
          refine JE_out (.inl rfl) (ka, kc) (results2 Try.results32 (res_tmp rfl) (res_tmp rfl)) rfl (List.Perm.refl _) (fun w h => Knows.know w h)
end Go.Proofs.Ytgbfjcgjcnndpaa

/- Walks of the reference for cycle: Fault, Locked, Next. -/
namespace Go.Proofs.Ytgbfjcgjcnndpaa
open Go.RowKit Go.Shelf

theorem In_j (n lo hi : Int) : Cv Try.prog 36 [I n, I lo, I hi] KTrue (.bool (inI n lo hi)) := by
  refine Cx_of Try.func36 rfl Try.ntmps36 rfl fun w0 M0 => ?_
  refine JC_seq ?_
  refine JC_region ?_
  refine JL_pd rfl (det_assign rfl) ?_
  refine JL_nil ?_
  refine JE_seq ?_
  refine JC_seq ?_
  refine JC_region ?_
  refine JL_pd rfl (det_move rfl) ?_
  refine JL_pd rfl (det_move rfl) ?_
  refine JL_pd rfl (det_geq rfl rfl) ?_
  refine JL_pd rfl (det_move rfl) ?_
  refine JL_split (d0 := 10) rfl (fun h1 => ?_) (fun h1 => ?_)
  · refine JL_guard rfl rfl h1 ?_
    refine JL_pd rfl (det_move rfl) ?_
    refine JL_guard rfl rfl h1 ?_
    refine JL_pd rfl (det_move rfl) ?_
    refine JL_guard rfl rfl h1 ?_
    refine JL_pd rfl (det_leq rfl rfl) ?_
    refine JL_pd rfl (det_pick_t rfl h1 rfl) ?_
    refine JL_pd rfl (det_assign rfl) ?_
    refine JL_nil ?_
    refine JE_seq ?_
    refine JC_ret ?_
    refine JE_out (.inl rfl) () (results1 Try.results36 (res_tmp rfl)) ?_ (List.Perm.refl _) (fun _ _ => trivial)
    (simp_all [inI])
    (try omega)
  · refine JL_skip rfl rfl h1 rfl ?_
    refine JL_skip rfl rfl h1 rfl ?_
    refine JL_skip rfl rfl h1 rfl ?_
    refine JL_pd rfl (det_pick_f rfl h1 rfl) ?_
    refine JL_pd rfl (det_assign rfl) ?_
    refine JL_nil ?_
    refine JE_seq ?_
    refine JC_ret ?_
    refine JE_out (.inl rfl) () (results1 Try.results36 (res_tmp rfl)) ?_ (List.Perm.refl _) (fun _ _ => trivial)
    (simp_all [inI])
    (try omega)
def okR (m : Mc) (l : Lk) : Bool := inI l.sg 0 7 && !(decide (l.sg ≤ 5) && !inI l.at_ 0 2) && !(decide (5 < l.sg) && !inI l.at_ 0 (m.states - 1))
theorem okR_eq (m : Mc) (l : Lk) : okR m l = okLock m l := by
  rw [Bool.eq_iff_iff]
  unfold okR okLock inI
  simp only [Bool.and_eq_true, Bool.not_eq_true', Bool.and_eq_false_iff, decide_eq_true_eq, decide_eq_false_iff_not, Bool.not_eq_false']
  split
  · simp only [decide_eq_true_eq]; omega
  · simp only [Bool.and_eq_true, decide_eq_true_eq]; omega
theorem all_snoc {α : Type} {p : α → Bool} {l : List α} {i : Nat} (h : i < l.length) (h1 : (l.take i).all p = true) (h2 : p l[i] = true) : (l.take (i + 1)).all p = true := by
  rw [take_snoc h, List.all_append, h1]; simp [h2]
theorem all_no {α : Type} {p : α → Bool} {l : List α} {i : Nat} (h : i < l.length) (h2 : p l[i] = false) : l.all p = false := by
  cases ha : l.all p
  · rfl
  · have := List.all_eq_true.1 ha _ (List.getElem_mem h); rw [h2] at this; cases this
set_option maxRecDepth 100000 in
set_option maxHeartbeats 1000000 in
theorem Fault_j (m : Mc) (a : MA) : Cv Try.prog 30 [.agg #[I m.states, .slice a.sa m.steps.length a.sc, .slice a.ra m.running.length a.rc, .slice a.ka m.locks.length a.kc]] (KMc m a) (I (fault m)) := by
  refine Cx_of Try.func30 rfl Try.ntmps30 rfl fun w0 M0 => ?_
  refine JC_seq ?_
  refine JC_region ?_
  refine JL_step rfl rfl rfl (jo_box rfl rfl) fun b1 => ?_
  refine JL_pd rfl (det_assign rfl) ?_
  refine JL_nil ?_
  refine JE_seq ?_
  refine JC_seq ?_
  refine JC_seq ?_
  refine JC_region ?_
  refine JL_pd rfl (det_fieldAddr rfl fo_26_1) ?_
  refine JL_dt rfl (det_loadK rfl Try.isAgg22 rfl) ?_
  refine JL_pd rfl (det_len rfl Try.runUnderlying22) ?_
  refine JL_pd rfl (det_gtr rfl rfl) ?_
  refine JL_pd rfl (det_move rfl) ?_
  -- stop: guard 4
  refine JL_pure (p := m.running.length ≤ 9223372036854775807) (by intro w h; exact h.2.1.1.bd) fun hz => ?_
  refine JL_join1 5 17 (.bool (decide ((24 : Int) < (m.steps.length : Int)) || decide ((40 : Int) < (m.locks.length : Int)))) (fun hj => ?_) ?_
  · refine JL_split (d0 := 12) rfl (fun q2 => ?_) (fun q2 => ?_)
    · refine JL_skip rfl rfl q2 rfl ?_
      refine JL_skip rfl rfl q2 rfl ?_
      refine JL_skip rfl rfl q2 rfl ?_
      refine JL_skip rfl rfl q2 rfl ?_
      refine JL_pd rfl (det_pick_t rfl q2 rfl) ?_
      exact hj (by kernel_rfl) (stsub_consB rfl (by clear hj; first | rfl | (simp only [q2, Bool.and_true, Bool.true_and, Bool.false_and, Bool.and_false, Bool.or_true, Bool.true_or, Bool.or_false, Bool.false_or, Bool.not_true, Bool.not_false]; done) | (simp [q2]; done) | (simp at q2; done) | (simp [q2] <;> omega) | (exfalso; simp at q2; omega)) stsub_nil)
    · refine JL_guard rfl rfl q2 ?_
      refine JL_pd rfl (det_fieldAddr rfl fo_26_3) ?_
      refine JL_guard rfl rfl q2 ?_
      refine JL_dt rfl (det_loadK rfl Try.isAgg24 rfl) ?_
      refine JL_guard rfl rfl q2 ?_
      refine JL_pd rfl (det_len rfl Try.runUnderlying24) ?_
      refine JL_guard rfl rfl q2 ?_
      refine JL_pd rfl (det_gtr rfl rfl) ?_
      refine JL_pd rfl (det_pick_f rfl q2 rfl) ?_
      exact hj (by kernel_rfl) (stsub_consB rfl (by clear hj; first | rfl | (simp only [q2, Bool.and_true, Bool.true_and, Bool.false_and, Bool.and_false, Bool.or_true, Bool.true_or, Bool.or_false, Bool.false_or, Bool.not_true, Bool.not_false]; done) | (simp [q2]; done) | (simp at q2; done) | (simp [q2] <;> omega) | (exfalso; simp at q2; omega)) stsub_nil)
  refine JL_nil ?_
  refine JE_seq ?_
  -- stop: cond
  refine JC_cond rfl (fun h1 => ?_) (fun h1 => ?_)
  · simp only [Bool.or_eq_true, decide_eq_true_eq] at h1
    refine JC_seq ?_
    refine JC_region ?_
    refine JL_pd rfl (det_assign rfl) ?_
    refine JL_nil ?_
    refine JE_seq ?_
    refine JC_ret ?_
    refine JE_seq_ret ?_
    -- stop: out
    refine JE_out (.inl rfl) () (results1 Try.results30 (res_tmp rfl)) (by unfold fault; rw [if_pos (by omega)]) (List.Perm.refl _) (fun _ _ => trivial)
  · simp only [Bool.or_eq_false_iff, decide_eq_false_iff_not] at h1
    have h2 : m.steps.length ≤ 24 ∧ m.locks.length ≤ 40 := by omega
    refine JC_skip ?_
    refine JE_seq ?_
    refine JC_seq ?_
    refine JC_seq ?_
    refine JC_region ?_
    refine JL_pd rfl (det_fieldAddr rfl fo_26_0) ?_
    refine JL_dt rfl (det_loadK rfl Try.isAgg3 rfl) ?_
    refine JL_step rfl rfl rfl (jo_callv rfl rfl Try.call36 rfl (In_j _ _ _)) fun _ => ?_
    refine JL_pd rfl (det_not rfl) ?_
    refine JL_nil ?_
    refine JE_seq ?_
    -- stop: cond
    refine JC_cond rfl (fun h3 => ?_) (fun h3 => ?_)
    · refine JC_seq ?_
      refine JC_region ?_
      refine JL_pd rfl (det_assign rfl) ?_
      refine JL_nil ?_
      refine JE_seq ?_
      refine JC_ret ?_
      refine JE_seq_ret ?_
      -- stop: out
      refine JE_out (.inl rfl) () (results1 Try.results30 (res_tmp rfl)) (by unfold fault; rw [if_neg (by omega), if_neg]; intro hc; simp only [Bool.and_eq_true] at hc; rw [hc.1.1.1.1] at h3; cases h3) (List.Perm.refl _) (fun _ _ => trivial)
    · have h3' : 1 ≤ m.states ∧ m.states ≤ 8 := by simpa [inI] using h3
      refine JC_skip ?_
      refine JE_seq ?_
      refine JC_seq ?_
      refine JC_seq ?_
      refine JC_region ?_
      refine JL_pd rfl (det_assign rfl) ?_
      refine JL_nil ?_
      refine JE_seq ?_
      refine JC_block ?_
      -- stop: loop
      refine JC_loopF (γ := Nat) (fun i => i ≤ m.steps.length ∧ (m.steps.take i).all (okStep m) = true) (fun i => [(3, I i)]) (fun _ => []) (fun i => m.steps.length - i) 0 ⟨Nat.zero_le _, rfl⟩ (stsub_consI rfl rfl stsub_nil) ht_nil ?_
      rintro i ⟨hi, hall⟩ K hK
      dsimp only [List.cons_append, List.nil_append]
      refine JC_seq ?_
      refine JC_seq ?_
      refine JC_region ?_
      refine JL_pd rfl (det_move rfl) ?_
      refine JL_pd rfl (det_fieldAddr rfl fo_26_1) ?_
      refine JL_dt rfl (det_loadK rfl Try.isAgg22 rfl) ?_
      refine JL_pd rfl (det_len rfl Try.runUnderlying22) ?_
      refine JL_pd rfl (det_lss rfl rfl) ?_
      refine JL_nil ?_
      refine JE_seq ?_
      -- stop: cond
      refine JC_if rfl (fun h4 => ?_) (fun h4 => ?_)
      · have hi2 : i < m.steps.length := by omega
        have hsn := all_snoc (p := okStep m) hi2 hall
        have hno := all_no (p := okStep m) hi2
        have hok : okStep m m.steps[i] = (inI m.steps[i].fr 0 (m.states - 1) && inI m.steps[i].to_ 0 (m.states - 1) && inI m.steps[i].sg 0 5) := rfl
        refine JC_skip ?_
        refine JE_seq ?_
        refine JC_seq ?_
        refine JC_block ?_
        refine JC_seq ?_
        refine JC_region ?_
        refine JL_pd rfl (det_fieldAddr rfl fo_26_1) ?_
        refine JL_dt rfl (det_loadK rfl Try.isAgg22 rfl) ?_
        refine JL_pd rfl (det_move rfl) ?_
        refine JL_dt rfl (det_indexAddr rfl rfl (by first | rfl | omega) (by first | assumption | omega | decide) Try.runUnderlying22 Try.sizeOf70) ?_
        refine JL_dt rfl (det_loadEA rfl (by first | assumption | omega | decide) Try.isAgg70 Try.sizeOf70 rfl rfl rfl) ?_
        refine JL_step rfl rfl rfl (jo_alloc0 Try.zeroValue70 rfl) fun b4 => ?_
        refine JL_step0 rfl rfl (jo_store rfl rfl rfl (by first | (simp only [splice_norm]; done) | (simp only [splice_norm]; rfl) | rfl) Try.sizeOf70 rfl rfl) fun _ => ?_
        refine JL_nil ?_
        refine JE_seq ?_
        refine JC_seq ?_
        refine JC_region ?_
        refine JL_pd rfl (det_fieldAddr rfl fo_70_0) ?_
        refine JL_dt rfl (det_loadK rfl Try.isAgg3 rfl) ?_
        refine JL_pd rfl (det_fieldAddr rfl fo_26_0) ?_
        refine JL_dt rfl (det_loadK rfl Try.isAgg3 rfl) ?_
        refine JL_pd rfl (det_sub rfl rfl ⟨by omega, by omega⟩) ?_
        refine JL_step rfl rfl rfl (jo_callv rfl rfl Try.call36 rfl (In_j _ _ _)) fun _ => ?_
        refine JL_pd rfl (det_not rfl) ?_
        refine JL_pd rfl (det_move rfl) ?_
        -- stop: guard 7
        refine JL_join1 14 55 (.bool (!okStep m m.steps[i])) (fun hj => ?_) ?_
        · refine JL_split (d0 := 41) rfl (fun q3 => ?_) (fun q3 => ?_)
          · refine JL_skip rfl rfl q3 rfl ?_
            refine JL_skip rfl rfl q3 rfl ?_
            refine JL_skip rfl rfl q3 rfl ?_
            refine JL_skip rfl rfl q3 rfl ?_
            refine JL_skip rfl rfl q3 rfl ?_
            refine JL_skip rfl rfl q3 rfl ?_
            refine JL_skip rfl rfl q3 rfl ?_
            refine JL_pd rfl (det_pick_t rfl q3 rfl) ?_
            refine JL_pd rfl (det_move rfl) ?_
            refine JL_split (d0 := 50) rfl (fun q4 => ?_) (fun q4 => ?_)
            · refine JL_skip rfl rfl q4 rfl ?_
              refine JL_skip rfl rfl q4 rfl ?_
              refine JL_skip rfl rfl q4 rfl ?_
              refine JL_skip rfl rfl q4 rfl ?_
              refine JL_pd rfl (det_pick_t rfl q4 rfl) ?_
              exact hj (by kernel_rfl) (stsub_consB rfl (by clear hj; first | rfl | (simp only [okStep, q3, q4, Bool.and_true, Bool.true_and, Bool.false_and, Bool.and_false, Bool.or_true, Bool.true_or, Bool.or_false, Bool.false_or, Bool.not_true, Bool.not_false]; done) | (simp [okStep, q3, q4]; done) | (simp [okStep] at q3; done) | (simp [okStep] at q4; done) | (simp [okStep, q3, q4] <;> omega) | (exfalso; simp [okStep] at q3 q4; omega) | (simp [q4, okStep] at q3; done) | (simp [q3, okStep] at q4; done)) stsub_nil)
            · refine JL_guard rfl rfl q4 ?_
              refine JL_pd rfl (det_fieldAddr rfl fo_70_2) ?_
              refine JL_guard rfl rfl q4 ?_
              refine JL_dt rfl (det_loadK rfl Try.isAgg3 rfl) ?_
              refine JL_guard rfl rfl q4 ?_
              refine JL_step rfl rfl rfl (jo_callv rfl rfl Try.call36 rfl (In_j _ _ _)) fun _ => ?_
              refine JL_guard rfl rfl q4 ?_
              refine JL_pd rfl (det_not rfl) ?_
              refine JL_pd rfl (det_pick_f rfl q4 rfl) ?_
              exact hj (by kernel_rfl) (stsub_consB rfl (by clear hj; first | rfl | (simp only [okStep, q3, q4, Bool.and_true, Bool.true_and, Bool.false_and, Bool.and_false, Bool.or_true, Bool.true_or, Bool.or_false, Bool.false_or, Bool.not_true, Bool.not_false]; done) | (simp [okStep, q3, q4]; done) | (simp [okStep] at q3; done) | (simp [okStep] at q4; done) | (simp [okStep, q3, q4] <;> omega) | (exfalso; simp [okStep] at q3 q4; omega) | (simp [q4, okStep] at q3; done) | (simp [q3, okStep] at q4; done)) stsub_nil)
          · refine JL_guard rfl rfl q3 ?_
            refine JL_pd rfl (det_fieldAddr rfl fo_70_1) ?_
            refine JL_guard rfl rfl q3 ?_
            refine JL_dt rfl (det_loadK rfl Try.isAgg3 rfl) ?_
            refine JL_guard rfl rfl q3 ?_
            refine JL_pd rfl (det_fieldAddr rfl fo_26_0) ?_
            refine JL_guard rfl rfl q3 ?_
            refine JL_dt rfl (det_loadK rfl Try.isAgg3 rfl) ?_
            refine JL_guard rfl rfl q3 ?_
            refine JL_pd rfl (det_sub rfl rfl ⟨by omega, by omega⟩) ?_
            refine JL_guard rfl rfl q3 ?_
            refine JL_step rfl rfl rfl (jo_callv rfl rfl Try.call36 rfl (In_j _ _ _)) fun _ => ?_
            refine JL_guard rfl rfl q3 ?_
            refine JL_pd rfl (det_not rfl) ?_
            refine JL_pd rfl (det_pick_f rfl q3 rfl) ?_
            refine JL_pd rfl (det_move rfl) ?_
            refine JL_split (d0 := 50) rfl (fun q5 => ?_) (fun q5 => ?_)
            · refine JL_skip rfl rfl q5 rfl ?_
              refine JL_skip rfl rfl q5 rfl ?_
              refine JL_skip rfl rfl q5 rfl ?_
              refine JL_skip rfl rfl q5 rfl ?_
              refine JL_pd rfl (det_pick_t rfl q5 rfl) ?_
              exact hj (by kernel_rfl) (stsub_consB rfl (by clear hj; first | rfl | (simp only [okStep, q3, q5, Bool.and_true, Bool.true_and, Bool.false_and, Bool.and_false, Bool.or_true, Bool.true_or, Bool.or_false, Bool.false_or, Bool.not_true, Bool.not_false]; done) | (simp [okStep, q3, q5]; done) | (simp [okStep] at q3; done) | (simp [okStep] at q5; done) | (simp [okStep, q3, q5] <;> omega) | (exfalso; simp [okStep] at q3 q5; omega) | (simp [q5, okStep] at q3; done) | (simp [q3, okStep] at q5; done)) stsub_nil)
            · refine JL_guard rfl rfl q5 ?_
              refine JL_pd rfl (det_fieldAddr rfl fo_70_2) ?_
              refine JL_guard rfl rfl q5 ?_
              refine JL_dt rfl (det_loadK rfl Try.isAgg3 rfl) ?_
              refine JL_guard rfl rfl q5 ?_
              refine JL_step rfl rfl rfl (jo_callv rfl rfl Try.call36 rfl (In_j _ _ _)) fun _ => ?_
              refine JL_guard rfl rfl q5 ?_
              refine JL_pd rfl (det_not rfl) ?_
              refine JL_pd rfl (det_pick_f rfl q5 rfl) ?_
              exact hj (by kernel_rfl) (stsub_consB rfl (by clear hj; first | rfl | (simp only [okStep, q3, q5, Bool.and_true, Bool.true_and, Bool.false_and, Bool.and_false, Bool.or_true, Bool.true_or, Bool.or_false, Bool.false_or, Bool.not_true, Bool.not_false]; done) | (simp [okStep, q3, q5]; done) | (simp [okStep] at q3; done) | (simp [okStep] at q5; done) | (simp [okStep, q3, q5] <;> omega) | (exfalso; simp [okStep] at q3 q5; omega) | (simp [q5, okStep] at q3; done) | (simp [q3, okStep] at q5; done)) stsub_nil)
        refine JL_nil ?_
        refine JE_seq ?_
        -- stop: cond
        refine JC_cond rfl (fun h5 => ?_) (fun h5 => ?_)
        · have h5' : m.steps.all (okStep m) = false := hno (by simpa using h5)
          refine JC_seq ?_
          refine JC_region ?_
          refine JL_pd rfl (det_assign rfl) ?_
          refine JL_nil ?_
          refine JE_seq ?_
          refine JC_ret ?_
          refine JE_block_ret ?_
          refine JE_seq_ret ?_
          refine JE_then_ret ?_
          refine JE_block_ret ?_
          refine JE_seq_ret ?_
          -- stop: out
          refine JE_out (.inl rfl) () (results1 Try.results30 (res_tmp rfl)) (by unfold fault; rw [if_neg (by omega), if_neg]; intro hc; simp only [Bool.and_eq_true] at hc; rw [hc.1.1.1.2] at h5'; cases h5') (List.Perm.refl _) (fun _ _ => trivial)
        · refine JC_skip ?_
          refine JE_block ?_
          refine JE_seq ?_
          refine JC_region ?_
          refine JL_pd rfl (det_move rfl) ?_
          refine JL_pd rfl (det_add rfl rfl ⟨by omega, by omega⟩) ?_
          refine JL_pd rfl (det_assign rfl) ?_
          refine JL_nil ?_
          -- stop: end
          refine JE_roundF hK (i + 1) ⟨by omega, hsn (by simpa using h5)⟩ (by omega) (stsub_consI rfl (by omega) stsub_nil) ht_nil
      · obtain rfl : i = m.steps.length := by omega
        rw [List.take_length] at hall
        refine JC_exit ?_
        refine JE_seq_exit ?_
        refine JE_then_exit ?_
        refine JE_block_here ?_
        refine JE_seq ?_
        refine JC_seq ?_
        refine JC_seq ?_
        refine JC_region ?_
        refine JL_pd rfl (det_assign rfl) ?_
        refine JL_nil ?_
        refine JE_seq ?_
        refine JC_block ?_
        -- stop: loop
        refine JC_loopF (γ := Nat) (fun i => i ≤ m.running.length ∧ (m.running.take i).all (fun n => inI n 0 (m.states - 1)) = true ∧ ∀ j (h : j + 1 < m.running.length), j + 1 < i → m.running[j] < m.running[j + 1]) (fun i => [(5, I i)]) (fun _ => []) (fun i => m.running.length - i) 0 ⟨Nat.zero_le _, rfl, fun _ _ h => by omega⟩ (stsub_consI rfl rfl stsub_nil) ht_nil ?_
        rintro i ⟨hi, hrn, hup⟩ K2 hK2
        dsimp only [List.cons_append, List.nil_append]
        refine JC_seq ?_
        refine JC_seq ?_
        refine JC_region ?_
        refine JL_pd rfl (det_move rfl) ?_
        refine JL_pd rfl (det_fieldAddr rfl fo_26_2) ?_
        refine JL_dt rfl (det_loadK rfl Try.isAgg23 rfl) ?_
        refine JL_pd rfl (det_len rfl Try.runUnderlying23) ?_
        refine JL_pd rfl (det_lss rfl rfl) ?_
        refine JL_nil ?_
        refine JE_seq ?_
        -- stop: cond
        refine JC_if rfl (fun h5 => ?_) (fun h5 => ?_)
        · have hi2 : i < m.running.length := by omega
          have hsn := all_snoc (p := fun n => inI n 0 (m.states - 1)) hi2 hrn
          have hno := all_no (p := fun n => inI n 0 (m.states - 1)) hi2
          refine JC_skip ?_
          refine JE_seq ?_
          refine JC_seq ?_
          refine JC_block ?_
          refine JC_seq ?_
          refine JC_draw [] (by kernel_rfl) ?_
          refine JA_pd (i := 0) rfl (by kernel_rfl) rfl rfl (det_fieldAddr rfl fo_26_2) ?_
          refine JA_dt (i := 1) rfl (by kernel_rfl) (by kernel_rfl) rfl rfl (det_loadK rfl Try.isAgg23 rfl) ?_
          refine JA_pd (i := 2) rfl (by kernel_rfl) rfl rfl (det_move rfl) ?_
          refine JA_dt (i := 3) rfl (by kernel_rfl) (by kernel_rfl) rfl rfl (det_indexAddr rfl rfl (by first | rfl | omega) (by first | assumption | omega | decide) Try.runUnderlying23 Try.sizeOf3) ?_
          refine JA_dt (i := 4) rfl (by kernel_rfl) (by kernel_rfl) rfl rfl (det_loadE rfl (by first | assumption | omega | decide) Try.isAgg3 rfl rfl) ?_
          refine JA_pd (i := 5) rfl (by kernel_rfl) rfl rfl (det_fieldAddr rfl fo_26_0) ?_
          refine JA_dt (i := 6) rfl (by kernel_rfl) (by kernel_rfl) rfl rfl (det_loadK rfl Try.isAgg3 rfl) ?_
          refine JA_pd (i := 7) rfl (by kernel_rfl) rfl rfl (det_sub rfl rfl ⟨by omega, by omega⟩) ?_
          refine JA_one (i := 8) (by kernel_rfl) rfl rfl (jo_callv rfl rfl Try.call36 rfl (In_j _ _ _)) (fun _ => ⟨hsub_refl, fun _ h => h⟩) fun _ => ?_
          refine JA_pd (i := 9) rfl (by kernel_rfl) rfl rfl (det_not rfl) ?_
          refine JA_pd (i := 10) rfl (by kernel_rfl) rfl rfl (det_move rfl) ?_
          -- stop: guard 10
          refine JA_split (d0 := 73) rfl (fun k1 => ?_) (fun k1 => ?_)
          · have h5' : inI m.running[i] 0 (m.states - 1) = false := by simpa using k1
            have h6' := hno h5'
            refine JA_skip (i := 11) rfl (by kernel_rfl) rfl rfl rfl rfl k1 ?_
            refine JA_skip (i := 12) rfl (by kernel_rfl) rfl rfl rfl rfl k1 ?_
            refine JA_skip (i := 13) rfl (by kernel_rfl) rfl rfl rfl rfl k1 ?_
            refine JA_skipU (i := 14) rfl (by kernel_rfl) rfl rfl rfl rfl ?_
            refine JA_skipU (i := 15) rfl (by kernel_rfl) rfl rfl rfl rfl ?_
            refine JA_skipU (i := 16) rfl (by kernel_rfl) rfl rfl rfl rfl ?_
            refine JA_skipU (i := 17) rfl (by kernel_rfl) rfl rfl rfl rfl ?_
            refine JA_skipU (i := 18) rfl (by kernel_rfl) rfl rfl rfl rfl ?_
            refine JA_skipU (i := 19) rfl (by kernel_rfl) rfl rfl rfl rfl ?_
            refine JA_skipU (i := 20) rfl (by kernel_rfl) rfl rfl rfl rfl ?_
            refine JA_skipU (i := 21) rfl (by kernel_rfl) rfl rfl rfl rfl ?_
            refine JA_skipU (i := 22) rfl (by kernel_rfl) rfl rfl rfl rfl ?_
            refine JA_skipU (i := 23) rfl (by kernel_rfl) rfl rfl rfl rfl ?_
            refine JA_skipU (i := 24) rfl (by kernel_rfl) rfl rfl rfl rfl ?_
            refine JA_skipU (i := 25) rfl (by kernel_rfl) rfl rfl rfl rfl ?_
            refine JA_skip (i := 26) rfl (by kernel_rfl) rfl rfl rfl rfl k1 ?_
            refine JA_pd (i := 27) rfl (by kernel_rfl) rfl rfl (det_pick_t rfl k1 rfl) ?_
            refine JA_done (by kernel_rfl) ?_
            refine JE_seq ?_
            -- stop: cond
            refine JC_cond rfl (fun k9 => ?_) (fun k9 => ?_)
            · refine JC_seq ?_
              refine JC_region ?_
              refine JL_pd rfl (det_assign rfl) ?_
              refine JL_nil ?_
              refine JE_seq ?_
              refine JC_ret ?_
              refine JE_block_ret ?_
              refine JE_seq_ret ?_
              refine JE_then_ret ?_
              refine JE_block_ret ?_
              refine JE_seq_ret ?_
              -- stop: out
              refine JE_out (.inl rfl) () (results1 Try.results30 (res_tmp rfl)) (by unfold fault; rw [if_neg (by omega), if_neg]; intro hc; simp only [Bool.and_eq_true] at hc; rw [hc.1.1.2] at h6'; cases h6') (List.Perm.refl _) (fun _ _ => trivial)
            · cases k9
          · have h5' : inI m.running[i] 0 (m.states - 1) = true := by simpa using k1
            refine JA_gpd (i := 11) rfl (by kernel_rfl) rfl rfl rfl rfl k1 (det_move rfl) ?_
            refine JA_gpd (i := 12) rfl (by kernel_rfl) rfl rfl rfl rfl k1 (det_gtr rfl rfl) ?_
            refine JA_gpd (i := 13) rfl (by kernel_rfl) rfl rfl rfl rfl k1 (det_move rfl) ?_
            -- stop: guard 13
            refine JA_split (d0 := 76) rfl (fun k2 => ?_) (fun k2 => ?_)
            · have hpos : 0 < i := by simpa using k2
              have hm1 : i - 1 + 1 = i := by omega
              refine JA_gpd (i := 14) rfl (by kernel_rfl) rfl rfl rfl rfl k2 (det_fieldAddr rfl fo_26_2) ?_
              refine JA_gdt (i := 15) rfl (by kernel_rfl) (by kernel_rfl) rfl rfl rfl rfl k2 (det_loadK rfl Try.isAgg23 rfl) ?_
              refine JA_gpd (i := 16) rfl (by kernel_rfl) rfl rfl rfl rfl k2 (det_move rfl) ?_
              refine JA_gdt (i := 17) rfl (by kernel_rfl) (by kernel_rfl) rfl rfl rfl rfl k2 (det_indexAddr rfl rfl (by first | rfl | omega) (by first | assumption | omega | decide) Try.runUnderlying23 Try.sizeOf3) ?_
              refine JA_gdt (i := 18) rfl (by kernel_rfl) (by kernel_rfl) rfl rfl rfl rfl k2 (det_loadE rfl (by first | assumption | omega | decide) Try.isAgg3 rfl rfl) ?_
              refine JA_gpd (i := 19) rfl (by kernel_rfl) rfl rfl rfl rfl k2 (det_fieldAddr rfl fo_26_2) ?_
              refine JA_gdt (i := 20) rfl (by kernel_rfl) (by kernel_rfl) rfl rfl rfl rfl k2 (det_loadK rfl Try.isAgg23 rfl) ?_
              refine JA_gpd (i := 21) rfl (by kernel_rfl) rfl rfl rfl rfl k2 (det_move rfl) ?_
              refine JA_gpd (i := 22) rfl (by kernel_rfl) rfl rfl rfl rfl k2 (det_sub rfl rfl ⟨by omega, by omega⟩) ?_
              refine JA_gdt (i := 23) rfl (by kernel_rfl) (by kernel_rfl) rfl rfl rfl rfl k2 (det_indexAddr (i := i - 1) rfl rfl (by omega) (by omega) Try.runUnderlying23 Try.sizeOf3) ?_
              refine JA_gdt (i := 24) rfl (by kernel_rfl) (by kernel_rfl) rfl rfl rfl rfl k2 (det_loadE rfl (by first | assumption | omega | decide) Try.isAgg3 rfl rfl) ?_
              refine JA_gpd (i := 25) rfl (by kernel_rfl) rfl rfl rfl rfl k2 (det_leq rfl rfl) ?_
              refine JA_gpd (i := 26) rfl (by kernel_rfl) rfl rfl rfl rfl k1 (det_pick_t rfl k2 rfl) ?_
              refine JA_pd (i := 27) rfl (by kernel_rfl) rfl rfl (det_pick_f rfl k1 rfl) ?_
              refine JA_done (by kernel_rfl) ?_
              refine JE_seq ?_
              -- stop: cond
              refine JC_cond rfl (fun k9 => ?_) (fun k9 => ?_)
              · refine JC_seq ?_
                refine JC_region ?_
                refine JL_pd rfl (det_assign rfl) ?_
                refine JL_nil ?_
                refine JE_seq ?_
                refine JC_ret ?_
                refine JE_block_ret ?_
                refine JE_seq_ret ?_
                refine JE_then_ret ?_
                refine JE_block_ret ?_
                refine JE_seq_ret ?_
                -- stop: out
                have hbad : ¬ rising m.running = true := fun hr => by
                  have := rising_get hr (i - 1) (by omega)
                  have e : m.running[i - 1 + 1] = m.running[i] := by congr 1
                  have := of_decide_eq_true k9
                  omega
                refine JE_out (.inl rfl) () (results1 Try.results30 (res_tmp rfl)) (by unfold fault; rw [if_neg (by omega), if_neg]; intro hc; simp only [Bool.and_eq_true] at hc; exact hbad hc.2) (List.Perm.refl _) (fun _ _ => trivial)
              · refine JC_skip ?_
                refine JE_block ?_
                refine JE_seq ?_
                refine JC_region ?_
                refine JL_pd rfl (det_move rfl) ?_
                refine JL_pd rfl (det_add rfl rfl ⟨by omega, by omega⟩) ?_
                refine JL_pd rfl (det_assign rfl) ?_
                refine JL_nil ?_
                -- stop: end
                refine JE_roundF hK2 (i + 1) ⟨by omega, hsn h5', fun j hj hji => ?_⟩ (by omega) (stsub_consI rfl (by omega) stsub_nil) ht_nil
                by_cases hj2 : j + 1 < i
                · exact hup j hj hj2
                · obtain rfl : j = i - 1 := by omega
                  have e : m.running[i - 1 + 1] = m.running[i] := by congr 1
                  have := of_decide_eq_false k9
                  omega
            · have hz0 : i = 0 := by simpa using k2
              subst hz0
              refine JA_skip (i := 14) rfl (by kernel_rfl) rfl rfl rfl rfl k2 ?_
              refine JA_skip (i := 15) rfl (by kernel_rfl) rfl rfl rfl rfl k2 ?_
              refine JA_skip (i := 16) rfl (by kernel_rfl) rfl rfl rfl rfl k2 ?_
              refine JA_skip (i := 17) rfl (by kernel_rfl) rfl rfl rfl rfl k2 ?_
              refine JA_skip (i := 18) rfl (by kernel_rfl) rfl rfl rfl rfl k2 ?_
              refine JA_skip (i := 19) rfl (by kernel_rfl) rfl rfl rfl rfl k2 ?_
              refine JA_skip (i := 20) rfl (by kernel_rfl) rfl rfl rfl rfl k2 ?_
              refine JA_skip (i := 21) rfl (by kernel_rfl) rfl rfl rfl rfl k2 ?_
              refine JA_skip (i := 22) rfl (by kernel_rfl) rfl rfl rfl rfl k2 ?_
              refine JA_skip (i := 23) rfl (by kernel_rfl) rfl rfl rfl rfl k2 ?_
              refine JA_skip (i := 24) rfl (by kernel_rfl) rfl rfl rfl rfl k2 ?_
              refine JA_skip (i := 25) rfl (by kernel_rfl) rfl rfl rfl rfl k2 ?_
              refine JA_gpd (i := 26) rfl (by kernel_rfl) rfl rfl rfl rfl k1 (det_pick_f rfl k2 rfl) ?_
              refine JA_pd (i := 27) rfl (by kernel_rfl) rfl rfl (det_pick_f rfl k1 rfl) ?_
              refine JA_done (by kernel_rfl) ?_
              refine JE_seq ?_
              -- stop: cond
              refine JC_cond rfl (fun k9 => ?_) (fun k9 => ?_)
              · cases k9
              · refine JC_skip ?_
                refine JE_block ?_
                refine JE_seq ?_
                refine JC_region ?_
                refine JL_pd rfl (det_move rfl) ?_
                refine JL_pd rfl (det_add rfl rfl ⟨by omega, by omega⟩) ?_
                refine JL_pd rfl (det_assign rfl) ?_
                refine JL_nil ?_
                -- stop: end
                refine JE_roundF hK2 (0 + 1) ⟨by omega, hsn h5', fun _ _ h => by omega⟩ (by omega) (stsub_consI rfl (by omega) stsub_nil) ht_nil
        · obtain rfl : i = m.running.length := by omega
          rw [List.take_length] at hrn
          refine JC_exit ?_
          refine JE_seq_exit ?_
          refine JE_then_exit ?_
          refine JE_block_here ?_
          refine JE_seq ?_
          refine JC_seq ?_
          refine JC_seq ?_
          refine JC_region ?_
          refine JL_pd rfl (det_assign rfl) ?_
          refine JL_nil ?_
          refine JE_seq ?_
          refine JC_block ?_
          -- stop: loop
          refine JC_loopF (γ := Nat) (fun i => i ≤ m.locks.length ∧ (m.locks.take i).all (okLock m) = true) (fun i => [(6, I i)]) (fun _ => []) (fun i => m.locks.length - i) 0 ⟨Nat.zero_le _, rfl⟩ (stsub_consI rfl rfl stsub_nil) ht_nil ?_
          rintro i ⟨hi, hlk⟩ K3 hK3
          dsimp only [List.cons_append, List.nil_append]
          refine JC_seq ?_
          refine JC_seq ?_
          refine JC_region ?_
          refine JL_pd rfl (det_move rfl) ?_
          refine JL_pd rfl (det_fieldAddr rfl fo_26_3) ?_
          refine JL_dt rfl (det_loadK rfl Try.isAgg24 rfl) ?_
          refine JL_pd rfl (det_len rfl Try.runUnderlying24) ?_
          refine JL_pd rfl (det_lss rfl rfl) ?_
          refine JL_nil ?_
          refine JE_seq ?_
          -- stop: cond
          refine JC_if rfl (fun h6 => ?_) (fun h6 => ?_)
          · have hi2 : i < m.locks.length := by omega
            have hsn := all_snoc (p := okLock m) hi2 hlk
            have hno := all_no (p := okLock m) hi2
            have hok : okR m m.locks[i] = okLock m m.locks[i] := okR_eq m _
            refine JC_skip ?_
            refine JE_seq ?_
            refine JC_seq ?_
            refine JC_block ?_
            refine JC_seq ?_
            refine JC_region ?_
            refine JL_pd rfl (det_fieldAddr rfl fo_26_3) ?_
            refine JL_dt rfl (det_loadK rfl Try.isAgg24 rfl) ?_
            refine JL_pd rfl (det_move rfl) ?_
            refine JL_dt rfl (det_indexAddr rfl rfl (by first | rfl | omega) (by first | assumption | omega | decide) Try.runUnderlying24 Try.sizeOf63) ?_
            refine JL_dt rfl (det_loadEA rfl (by first | assumption | omega | decide) Try.isAgg63 Try.sizeOf63 rfl rfl rfl) ?_
            refine JL_step rfl rfl rfl (jo_alloc0 Try.zeroValue63 rfl) fun b7 => ?_
            refine JL_step0 rfl rfl (jo_store rfl rfl rfl (by first | (simp only [splice_norm]; done) | (simp only [splice_norm]; rfl) | rfl) Try.sizeOf63 rfl rfl) fun _ => ?_
            refine JL_nil ?_
            refine JE_seq ?_
            refine JC_seq ?_
            refine JC_region ?_
            refine JL_pd rfl (det_fieldAddr rfl fo_63_0) ?_
            refine JL_dt rfl (det_loadK rfl Try.isAgg3 rfl) ?_
            refine JL_step rfl rfl rfl (jo_callv rfl rfl Try.call36 rfl (In_j _ _ _)) fun _ => ?_
            refine JL_pd rfl (det_not rfl) ?_
            refine JL_pd rfl (det_move rfl) ?_
            -- stop: guard 4
            refine JL_join1 24 131 (.bool (!okR m m.locks[i])) (fun hj => ?_) ?_
            · refine JL_split (d0 := 107) rfl (fun q6 => ?_) (fun q6 => ?_)
              · refine JL_skip rfl rfl q6 rfl ?_
                refine JL_skip rfl rfl q6 rfl ?_
                refine JL_skip rfl rfl q6 rfl ?_
                refine JL_skip rfl rfl q6 rfl ?_
                refine JL_skipU rfl rfl rfl ?_
                refine JL_skipU rfl rfl rfl ?_
                refine JL_skipU rfl rfl rfl ?_
                refine JL_skipU rfl rfl rfl ?_
                refine JL_skip rfl rfl q6 rfl ?_
                refine JL_pd rfl (det_pick_t rfl q6 rfl) ?_
                refine JL_pd rfl (det_move rfl) ?_
                refine JL_split (d0 := 118) rfl (fun q7 => ?_) (fun q7 => ?_)
                · refine JL_skip rfl rfl q7 rfl ?_
                  refine JL_skip rfl rfl q7 rfl ?_
                  refine JL_skip rfl rfl q7 rfl ?_
                  refine JL_skip rfl rfl q7 rfl ?_
                  refine JL_skipU rfl rfl rfl ?_
                  refine JL_skipU rfl rfl rfl ?_
                  refine JL_skipU rfl rfl rfl ?_
                  refine JL_skipU rfl rfl rfl ?_
                  refine JL_skipU rfl rfl rfl ?_
                  refine JL_skipU rfl rfl rfl ?_
                  refine JL_skipU rfl rfl rfl ?_
                  refine JL_skip rfl rfl q7 rfl ?_
                  refine JL_pd rfl (det_pick_t rfl q7 rfl) ?_
                  exact hj (by kernel_rfl) (stsub_consB rfl (by clear hj; first | rfl | (simp only [okR, q6, q7, Bool.and_true, Bool.true_and, Bool.false_and, Bool.and_false, Bool.or_true, Bool.true_or, Bool.or_false, Bool.false_or, Bool.not_true, Bool.not_false]; done) | (simp [okR, q6, q7]; done) | (simp [okR] at q6; done) | (simp [okR] at q7; done) | (simp [okR, q6, q7] <;> omega) | (exfalso; simp [okR] at q6 q7; omega) | (simp [q7, okR] at q6; done) | (simp [q6, okR] at q7; done)) stsub_nil)
                · refine JL_guard rfl rfl q7 ?_
                  refine JL_pd rfl (det_fieldAddr rfl fo_63_0) ?_
                  refine JL_guard rfl rfl q7 ?_
                  refine JL_dt rfl (det_loadK rfl Try.isAgg3 rfl) ?_
                  refine JL_guard rfl rfl q7 ?_
                  refine JL_pd rfl (det_gtr rfl rfl) ?_
                  refine JL_guard rfl rfl q7 ?_
                  refine JL_pd rfl (det_move rfl) ?_
                  refine JL_split (d0 := 122) rfl (fun q8 => ?_) (fun q8 => ?_)
                  · refine JL_guard rfl rfl q8 ?_
                    refine JL_pd rfl (det_fieldAddr rfl fo_63_1) ?_
                    refine JL_guard rfl rfl q8 ?_
                    refine JL_dt rfl (det_loadK rfl Try.isAgg3 rfl) ?_
                    refine JL_guard rfl rfl q8 ?_
                    refine JL_pd rfl (det_fieldAddr rfl fo_26_0) ?_
                    refine JL_guard rfl rfl q8 ?_
                    refine JL_dt rfl (det_loadK rfl Try.isAgg3 rfl) ?_
                    refine JL_guard rfl rfl q8 ?_
                    refine JL_pd rfl (det_sub rfl rfl ⟨by omega, by omega⟩) ?_
                    refine JL_guard rfl rfl q8 ?_
                    refine JL_step rfl rfl rfl (jo_callv rfl rfl Try.call36 rfl (In_j _ _ _)) fun _ => ?_
                    refine JL_guard rfl rfl q8 ?_
                    refine JL_pd rfl (det_not rfl) ?_
                    refine JL_guard rfl rfl q7 ?_
                    refine JL_pd rfl (det_pick_t rfl q8 rfl) ?_
                    refine JL_pd rfl (det_pick_f rfl q7 rfl) ?_
                    exact hj (by kernel_rfl) (stsub_consB rfl (by clear hj; first | rfl | (simp only [okR, q6, q7, q8, Bool.and_true, Bool.true_and, Bool.false_and, Bool.and_false, Bool.or_true, Bool.true_or, Bool.or_false, Bool.false_or, Bool.not_true, Bool.not_false]; done) | (simp [okR, q6, q7, q8]; done) | (simp [okR] at q6; done) | (simp [okR] at q7; done) | (simp [okR] at q8; done) | (simp [okR, q6, q7, q8] <;> omega) | (exfalso; simp [okR] at q6 q7 q8; omega) | (simp [q7, q8, okR] at q6; done) | (simp [q6, q8, okR] at q7; done) | (simp [q6, q7, okR] at q8; done)) stsub_nil)
                  · refine JL_skip rfl rfl q8 rfl ?_
                    refine JL_skip rfl rfl q8 rfl ?_
                    refine JL_skip rfl rfl q8 rfl ?_
                    refine JL_skip rfl rfl q8 rfl ?_
                    refine JL_skip rfl rfl q8 rfl ?_
                    refine JL_skip rfl rfl q8 rfl ?_
                    refine JL_skip rfl rfl q8 rfl ?_
                    refine JL_guard rfl rfl q7 ?_
                    refine JL_pd rfl (det_pick_f rfl q8 rfl) ?_
                    refine JL_pd rfl (det_pick_f rfl q7 rfl) ?_
                    exact hj (by kernel_rfl) (stsub_consB rfl (by clear hj; first | rfl | (simp only [okR, q6, q7, q8, Bool.and_true, Bool.true_and, Bool.false_and, Bool.and_false, Bool.or_true, Bool.true_or, Bool.or_false, Bool.false_or, Bool.not_true, Bool.not_false]; done) | (simp [okR, q6, q7, q8]; done) | (simp [okR] at q6; done) | (simp [okR] at q7; done) | (simp [okR] at q8; done) | (simp [okR, q6, q7, q8] <;> omega) | (exfalso; simp [okR] at q6 q7 q8; omega) | (simp [q7, q8, okR] at q6; done) | (simp [q6, q8, okR] at q7; done) | (simp [q6, q7, okR] at q8; done)) stsub_nil)
              · refine JL_guard rfl rfl q6 ?_
                refine JL_pd rfl (det_fieldAddr rfl fo_63_0) ?_
                refine JL_guard rfl rfl q6 ?_
                refine JL_dt rfl (det_loadK rfl Try.isAgg3 rfl) ?_
                refine JL_guard rfl rfl q6 ?_
                refine JL_pd rfl (det_leq rfl rfl) ?_
                refine JL_guard rfl rfl q6 ?_
                refine JL_pd rfl (det_move rfl) ?_
                refine JL_split (d0 := 111) rfl (fun q9 => ?_) (fun q9 => ?_)
                · refine JL_guard rfl rfl q9 ?_
                  refine JL_pd rfl (det_fieldAddr rfl fo_63_1) ?_
                  refine JL_guard rfl rfl q9 ?_
                  refine JL_dt rfl (det_loadK rfl Try.isAgg3 rfl) ?_
                  refine JL_guard rfl rfl q9 ?_
                  refine JL_step rfl rfl rfl (jo_callv rfl rfl Try.call36 rfl (In_j _ _ _)) fun _ => ?_
                  refine JL_guard rfl rfl q9 ?_
                  refine JL_pd rfl (det_not rfl) ?_
                  refine JL_guard rfl rfl q6 ?_
                  refine JL_pd rfl (det_pick_t rfl q9 rfl) ?_
                  refine JL_pd rfl (det_pick_f rfl q6 rfl) ?_
                  refine JL_pd rfl (det_move rfl) ?_
                  refine JL_split (d0 := 118) rfl (fun q10 => ?_) (fun q10 => ?_)
                  · refine JL_skip rfl rfl q10 rfl ?_
                    refine JL_skip rfl rfl q10 rfl ?_
                    refine JL_skip rfl rfl q10 rfl ?_
                    refine JL_skip rfl rfl q10 rfl ?_
                    refine JL_skipU rfl rfl rfl ?_
                    refine JL_skipU rfl rfl rfl ?_
                    refine JL_skipU rfl rfl rfl ?_
                    refine JL_skipU rfl rfl rfl ?_
                    refine JL_skipU rfl rfl rfl ?_
                    refine JL_skipU rfl rfl rfl ?_
                    refine JL_skipU rfl rfl rfl ?_
                    refine JL_skip rfl rfl q10 rfl ?_
                    refine JL_pd rfl (det_pick_t rfl q10 rfl) ?_
                    exact hj (by kernel_rfl) (stsub_consB rfl (by clear hj; first | rfl | (simp only [okR, q6, q9, q10, Bool.and_true, Bool.true_and, Bool.false_and, Bool.and_false, Bool.or_true, Bool.true_or, Bool.or_false, Bool.false_or, Bool.not_true, Bool.not_false]; done) | (simp [okR, q6, q9, q10]; done) | (simp [okR] at q6; done) | (simp [okR] at q9; done) | (simp [okR] at q10; done) | (simp [okR, q6, q9, q10] <;> omega) | (exfalso; simp [okR] at q6 q9 q10; omega) | (simp [q9, q10, okR] at q6; done) | (simp [q6, q10, okR] at q9; done) | (simp [q6, q9, okR] at q10; done)) stsub_nil)
                  · refine JL_guard rfl rfl q10 ?_
                    refine JL_pd rfl (det_fieldAddr rfl fo_63_0) ?_
                    refine JL_guard rfl rfl q10 ?_
                    refine JL_dt rfl (det_loadK rfl Try.isAgg3 rfl) ?_
                    refine JL_guard rfl rfl q10 ?_
                    refine JL_pd rfl (det_gtr rfl rfl) ?_
                    refine JL_guard rfl rfl q10 ?_
                    refine JL_pd rfl (det_move rfl) ?_
                    refine JL_split (d0 := 122) rfl (fun q11 => ?_) (fun q11 => ?_)
                    · refine JL_guard rfl rfl q11 ?_
                      refine JL_pd rfl (det_fieldAddr rfl fo_63_1) ?_
                      refine JL_guard rfl rfl q11 ?_
                      refine JL_dt rfl (det_loadK rfl Try.isAgg3 rfl) ?_
                      refine JL_guard rfl rfl q11 ?_
                      refine JL_pd rfl (det_fieldAddr rfl fo_26_0) ?_
                      refine JL_guard rfl rfl q11 ?_
                      refine JL_dt rfl (det_loadK rfl Try.isAgg3 rfl) ?_
                      refine JL_guard rfl rfl q11 ?_
                      refine JL_pd rfl (det_sub rfl rfl ⟨by omega, by omega⟩) ?_
                      refine JL_guard rfl rfl q11 ?_
                      refine JL_step rfl rfl rfl (jo_callv rfl rfl Try.call36 rfl (In_j _ _ _)) fun _ => ?_
                      refine JL_guard rfl rfl q11 ?_
                      refine JL_pd rfl (det_not rfl) ?_
                      refine JL_guard rfl rfl q10 ?_
                      refine JL_pd rfl (det_pick_t rfl q11 rfl) ?_
                      refine JL_pd rfl (det_pick_f rfl q10 rfl) ?_
                      exact hj (by kernel_rfl) (stsub_consB rfl (by clear hj; first | rfl | (simp only [okR, q6, q9, q10, q11, Bool.and_true, Bool.true_and, Bool.false_and, Bool.and_false, Bool.or_true, Bool.true_or, Bool.or_false, Bool.false_or, Bool.not_true, Bool.not_false]; done) | (simp [okR, q6, q9, q10, q11]; done) | (simp [okR] at q6; done) | (simp [okR] at q9; done) | (simp [okR] at q10; done) | (simp [okR] at q11; done) | (simp [okR, q6, q9, q10, q11] <;> omega) | (exfalso; simp [okR] at q6 q9 q10 q11; omega) | (simp [q9, q10, q11, okR] at q6; done) | (simp [q6, q10, q11, okR] at q9; done) | (simp [q6, q9, q11, okR] at q10; done) | (simp [q6, q9, q10, okR] at q11; done)) stsub_nil)
                    · refine JL_skip rfl rfl q11 rfl ?_
                      refine JL_skip rfl rfl q11 rfl ?_
                      refine JL_skip rfl rfl q11 rfl ?_
                      refine JL_skip rfl rfl q11 rfl ?_
                      refine JL_skip rfl rfl q11 rfl ?_
                      refine JL_skip rfl rfl q11 rfl ?_
                      refine JL_skip rfl rfl q11 rfl ?_
                      refine JL_guard rfl rfl q10 ?_
                      refine JL_pd rfl (det_pick_f rfl q11 rfl) ?_
                      refine JL_pd rfl (det_pick_f rfl q10 rfl) ?_
                      exact hj (by kernel_rfl) (stsub_consB rfl (by clear hj; first | rfl | (simp only [okR, q6, q9, q10, q11, Bool.and_true, Bool.true_and, Bool.false_and, Bool.and_false, Bool.or_true, Bool.true_or, Bool.or_false, Bool.false_or, Bool.not_true, Bool.not_false]; done) | (simp [okR, q6, q9, q10, q11]; done) | (simp [okR] at q6; done) | (simp [okR] at q9; done) | (simp [okR] at q10; done) | (simp [okR] at q11; done) | (simp [okR, q6, q9, q10, q11] <;> omega) | (exfalso; simp [okR] at q6 q9 q10 q11; omega) | (simp [q9, q10, q11, okR] at q6; done) | (simp [q6, q10, q11, okR] at q9; done) | (simp [q6, q9, q11, okR] at q10; done) | (simp [q6, q9, q10, okR] at q11; done)) stsub_nil)
                · refine JL_skip rfl rfl q9 rfl ?_
                  refine JL_skip rfl rfl q9 rfl ?_
                  refine JL_skip rfl rfl q9 rfl ?_
                  refine JL_skip rfl rfl q9 rfl ?_
                  refine JL_guard rfl rfl q6 ?_
                  refine JL_pd rfl (det_pick_f rfl q9 rfl) ?_
                  refine JL_pd rfl (det_pick_f rfl q6 rfl) ?_
                  refine JL_pd rfl (det_move rfl) ?_
                  refine JL_split (d0 := 118) rfl (fun q12 => ?_) (fun q12 => ?_)
                  · refine JL_skip rfl rfl q12 rfl ?_
                    refine JL_skip rfl rfl q12 rfl ?_
                    refine JL_skip rfl rfl q12 rfl ?_
                    refine JL_skip rfl rfl q12 rfl ?_
                    refine JL_skipU rfl rfl rfl ?_
                    refine JL_skipU rfl rfl rfl ?_
                    refine JL_skipU rfl rfl rfl ?_
                    refine JL_skipU rfl rfl rfl ?_
                    refine JL_skipU rfl rfl rfl ?_
                    refine JL_skipU rfl rfl rfl ?_
                    refine JL_skipU rfl rfl rfl ?_
                    refine JL_skip rfl rfl q12 rfl ?_
                    refine JL_pd rfl (det_pick_t rfl q12 rfl) ?_
                    exact hj (by kernel_rfl) (stsub_consB rfl (by clear hj; first | rfl | (simp only [okR, q6, q9, q12, Bool.and_true, Bool.true_and, Bool.false_and, Bool.and_false, Bool.or_true, Bool.true_or, Bool.or_false, Bool.false_or, Bool.not_true, Bool.not_false]; done) | (simp [okR, q6, q9, q12]; done) | (simp [okR] at q6; done) | (simp [okR] at q9; done) | (simp [okR] at q12; done) | (simp [okR, q6, q9, q12] <;> omega) | (exfalso; simp [okR] at q6 q9 q12; omega) | (simp [q9, q12, okR] at q6; done) | (simp [q6, q12, okR] at q9; done) | (simp [q6, q9, okR] at q12; done)) stsub_nil)
                  · refine JL_guard rfl rfl q12 ?_
                    refine JL_pd rfl (det_fieldAddr rfl fo_63_0) ?_
                    refine JL_guard rfl rfl q12 ?_
                    refine JL_dt rfl (det_loadK rfl Try.isAgg3 rfl) ?_
                    refine JL_guard rfl rfl q12 ?_
                    refine JL_pd rfl (det_gtr rfl rfl) ?_
                    refine JL_guard rfl rfl q12 ?_
                    refine JL_pd rfl (det_move rfl) ?_
                    refine JL_split (d0 := 122) rfl (fun q13 => ?_) (fun q13 => ?_)
                    · refine JL_guard rfl rfl q13 ?_
                      refine JL_pd rfl (det_fieldAddr rfl fo_63_1) ?_
                      refine JL_guard rfl rfl q13 ?_
                      refine JL_dt rfl (det_loadK rfl Try.isAgg3 rfl) ?_
                      refine JL_guard rfl rfl q13 ?_
                      refine JL_pd rfl (det_fieldAddr rfl fo_26_0) ?_
                      refine JL_guard rfl rfl q13 ?_
                      refine JL_dt rfl (det_loadK rfl Try.isAgg3 rfl) ?_
                      refine JL_guard rfl rfl q13 ?_
                      refine JL_pd rfl (det_sub rfl rfl ⟨by omega, by omega⟩) ?_
                      refine JL_guard rfl rfl q13 ?_
                      refine JL_step rfl rfl rfl (jo_callv rfl rfl Try.call36 rfl (In_j _ _ _)) fun _ => ?_
                      refine JL_guard rfl rfl q13 ?_
                      refine JL_pd rfl (det_not rfl) ?_
                      refine JL_guard rfl rfl q12 ?_
                      refine JL_pd rfl (det_pick_t rfl q13 rfl) ?_
                      refine JL_pd rfl (det_pick_f rfl q12 rfl) ?_
                      exact hj (by kernel_rfl) (stsub_consB rfl (by clear hj; first | rfl | (simp only [okR, q6, q9, q12, q13, Bool.and_true, Bool.true_and, Bool.false_and, Bool.and_false, Bool.or_true, Bool.true_or, Bool.or_false, Bool.false_or, Bool.not_true, Bool.not_false]; done) | (simp [okR, q6, q9, q12, q13]; done) | (simp [okR] at q6; done) | (simp [okR] at q9; done) | (simp [okR] at q12; done) | (simp [okR] at q13; done) | (simp [okR, q6, q9, q12, q13] <;> omega) | (exfalso; simp [okR] at q6 q9 q12 q13; omega) | (simp [q9, q12, q13, okR] at q6; done) | (simp [q6, q12, q13, okR] at q9; done) | (simp [q6, q9, q13, okR] at q12; done) | (simp [q6, q9, q12, okR] at q13; done)) stsub_nil)
                    · refine JL_skip rfl rfl q13 rfl ?_
                      refine JL_skip rfl rfl q13 rfl ?_
                      refine JL_skip rfl rfl q13 rfl ?_
                      refine JL_skip rfl rfl q13 rfl ?_
                      refine JL_skip rfl rfl q13 rfl ?_
                      refine JL_skip rfl rfl q13 rfl ?_
                      refine JL_skip rfl rfl q13 rfl ?_
                      refine JL_guard rfl rfl q12 ?_
                      refine JL_pd rfl (det_pick_f rfl q13 rfl) ?_
                      refine JL_pd rfl (det_pick_f rfl q12 rfl) ?_
                      exact hj (by kernel_rfl) (stsub_consB rfl (by clear hj; first | rfl | (simp only [okR, q6, q9, q12, q13, Bool.and_true, Bool.true_and, Bool.false_and, Bool.and_false, Bool.or_true, Bool.true_or, Bool.or_false, Bool.false_or, Bool.not_true, Bool.not_false]; done) | (simp [okR, q6, q9, q12, q13]; done) | (simp [okR] at q6; done) | (simp [okR] at q9; done) | (simp [okR] at q12; done) | (simp [okR] at q13; done) | (simp [okR, q6, q9, q12, q13] <;> omega) | (exfalso; simp [okR] at q6 q9 q12 q13; omega) | (simp [q9, q12, q13, okR] at q6; done) | (simp [q6, q12, q13, okR] at q9; done) | (simp [q6, q9, q13, okR] at q12; done) | (simp [q6, q9, q12, okR] at q13; done)) stsub_nil)
            refine JL_nil ?_
            refine JE_seq ?_
            -- stop: cond
            refine JC_cond rfl (fun h7 => ?_) (fun h7 => ?_)
            · have h7' : m.locks.all (okLock m) = false := hno (by rw [← hok]; simpa using h7)
              refine JC_seq ?_
              refine JC_region ?_
              refine JL_pd rfl (det_assign rfl) ?_
              refine JL_nil ?_
              refine JE_seq ?_
              refine JC_ret ?_
              refine JE_block_ret ?_
              refine JE_seq_ret ?_
              refine JE_then_ret ?_
              refine JE_block_ret ?_
              refine JE_seq_ret ?_
              -- stop: out
              refine JE_out (.inl rfl) () (results1 Try.results30 (res_tmp rfl)) (by unfold fault; rw [if_neg (by omega), if_neg]; intro hc; simp only [Bool.and_eq_true] at hc; rw [hc.1.2] at h7'; cases h7') (List.Perm.refl _) (fun _ _ => trivial)
            · refine JC_skip ?_
              refine JE_block ?_
              refine JE_seq ?_
              refine JC_region ?_
              refine JL_pd rfl (det_move rfl) ?_
              refine JL_pd rfl (det_add rfl rfl ⟨by omega, by omega⟩) ?_
              refine JL_pd rfl (det_assign rfl) ?_
              refine JL_nil ?_
              -- stop: end
              refine JE_roundF hK3 (i + 1) ⟨by omega, hsn (by rw [← hok]; simpa using h7)⟩ (by omega) (stsub_consI rfl (by omega) stsub_nil) ht_nil
          · obtain rfl : i = m.locks.length := by omega
            rw [List.take_length] at hlk
            refine JC_exit ?_
            refine JE_seq_exit ?_
            refine JE_then_exit ?_
            refine JE_block_here ?_
            refine JE_seq ?_
            refine JC_seq ?_
            refine JC_region ?_
            refine JL_pd rfl (det_assign rfl) ?_
            refine JL_nil ?_
            refine JE_seq ?_
            refine JC_ret ?_
            -- stop: out
            refine JE_out (.inl rfl) () (results1 Try.results30 (res_tmp rfl)) (by unfold fault; rw [if_neg (by omega), if_pos]; simp only [Bool.and_eq_true]; exact ⟨⟨⟨⟨decide_eq_true h3', hall⟩, hrn⟩, hlk⟩, rising_iff.2 fun j hj => hup j hj hj⟩) (List.Perm.refl _) (fun _ _ => trivial)
/-- Where the reference looks for a lock. -/
def refAt (s : Sd) (g : Int) : Lk := if g ≤ 5 then ⟨g, s.sp⟩ else ⟨g, s.st⟩
theorem Locked_j (ls : List Lk) (ka : Option Addr) (kc : Nat) (s : Sd) (g : Int) (hl : ls.length ≤ 1000) : Cv Try.prog 94 [.slice ka ls.length kc, .agg #[I s.st, I s.sp], I g] (KSl ka ls.length kc encLk ls) (.bool (decide (refAt s g ∈ ls))) := by
  refine Cx_of Try.func94 rfl Try.ntmps94 rfl fun w0 M0 => ?_
  refine JC_seq ?_
  refine JC_region ?_
  refine JL_step rfl rfl rfl (jo_box rfl rfl) fun b4 => ?_
  refine JL_pd rfl (det_assign rfl) ?_
  refine JL_nil ?_
  refine JE_seq ?_
  refine JC_seq ?_
  refine JC_seq ?_
  refine JC_region ?_
  refine JL_pd rfl (det_assign rfl) ?_
  refine JL_nil ?_
  refine JE_seq ?_
  refine JC_block ?_
  -- stop: loop
  refine JC_loopF (γ := Nat) (fun i => i ≤ ls.length ∧ refAt s g ∉ ls.take i) (fun i => [(7, I i)]) (fun _ => []) (fun i => ls.length - i) 0 ⟨Nat.zero_le _, by simp⟩ (stsub_consI rfl rfl stsub_nil) ht_nil ?_
  rintro i ⟨hi, hno⟩ K hK
  dsimp only [List.cons_append, List.nil_append]
  refine JC_seq ?_
  refine JC_seq ?_
  refine JC_region ?_
  refine JL_pd rfl (det_move rfl) ?_
  refine JL_pd rfl (det_move rfl) ?_
  refine JL_pd rfl (det_len rfl Try.runUnderlying24) ?_
  refine JL_pd rfl (det_lss rfl rfl) ?_
  refine JL_nil ?_
  refine JE_seq ?_
  -- stop: cond
  refine JC_if rfl (fun h1 => ?_) (fun h1 => ?_)
  · have hi2 : i < ls.length := by omega
    have e : decide (refAt s g = ls[i]) = (decide (ls[i].sg = g) && ((decide (g ≤ 5) && decide (ls[i].at_ = s.sp)) || (decide (5 < g) && decide (ls[i].at_ = s.st)))) := by
      rw [Bool.eq_iff_iff]
      unfold refAt
      split
      · rw [decide_eq_true_eq, Lk.ext']; simp only [Bool.and_eq_true, Bool.or_eq_true, decide_eq_true_eq]; omega
      · rw [decide_eq_true_eq, Lk.ext']; simp only [Bool.and_eq_true, Bool.or_eq_true, decide_eq_true_eq]; omega
    refine JC_skip ?_
    refine JE_seq ?_
    refine JC_seq ?_
    refine JC_block ?_
    refine JC_seq ?_
    refine JC_region ?_
    refine JL_pd rfl (det_move rfl) ?_
    refine JL_pd rfl (det_move rfl) ?_
    refine JL_dt rfl (det_indexAddr rfl rfl (by first | rfl | omega) (by first | assumption | omega | decide) Try.runUnderlying24 Try.sizeOf63) ?_
    refine JL_dt rfl (det_loadEA rfl (by first | assumption | omega | decide) Try.isAgg63 Try.sizeOf63 rfl rfl rfl) ?_
    refine JL_step rfl rfl rfl (jo_alloc0 Try.zeroValue63 rfl) fun b8 => ?_
    refine JL_step0 rfl rfl (jo_store rfl rfl rfl (by first | (simp only [splice_norm]; done) | (simp only [splice_norm]; rfl) | rfl) Try.sizeOf63 rfl rfl) fun _ => ?_
    refine JL_nil ?_
    refine JE_seq ?_
    refine JC_seq ?_
    refine JC_region ?_
    refine JL_pd rfl (det_fieldAddr rfl fo_63_0) ?_
    refine JL_dt rfl (det_loadK rfl Try.isAgg3 rfl) ?_
    refine JL_pd rfl (det_move rfl) ?_
    refine JL_pd rfl (det_eql rfl rfl) ?_
    refine JL_pd rfl (det_move rfl) ?_
    -- stop: guard 4
    refine JL_join1 21 44 (.bool (decide (ls[i].sg = g) && ((decide (g ≤ 5) && decide (ls[i].at_ = s.sp)) || (decide (5 < g) && decide (ls[i].at_ = s.st))))) (fun hj => ?_) ?_
    · refine JL_split (d0 := 23) rfl (fun q14 => ?_) (fun q14 => ?_)
      · refine JL_guard rfl rfl q14 ?_
        refine JL_pd rfl (det_move rfl) ?_
        refine JL_guard rfl rfl q14 ?_
        refine JL_pd rfl (det_leq rfl rfl) ?_
        refine JL_guard rfl rfl q14 ?_
        refine JL_pd rfl (det_move rfl) ?_
        refine JL_split (d0 := 26) rfl (fun q15 => ?_) (fun q15 => ?_)
        · refine JL_guard rfl rfl q15 ?_
          refine JL_pd rfl (det_fieldAddr rfl fo_63_1) ?_
          refine JL_guard rfl rfl q15 ?_
          refine JL_dt rfl (det_loadK rfl Try.isAgg3 rfl) ?_
          refine JL_guard rfl rfl q15 ?_
          refine JL_pd rfl (det_fieldAddr rfl fo_53_1) ?_
          refine JL_guard rfl rfl q15 ?_
          refine JL_dt rfl (det_loadK rfl Try.isAgg3 rfl) ?_
          refine JL_guard rfl rfl q15 ?_
          refine JL_pd rfl (det_eql rfl rfl) ?_
          refine JL_guard rfl rfl q14 ?_
          refine JL_pd rfl (det_pick_t rfl q15 rfl) ?_
          refine JL_guard rfl rfl q14 ?_
          refine JL_pd rfl (det_move rfl) ?_
          refine JL_split (d0 := 33) rfl (fun q16 => ?_) (fun q16 => ?_)
          · refine JL_skip rfl rfl q16 rfl ?_
            refine JL_skip rfl rfl q16 rfl ?_
            refine JL_skip rfl rfl q16 rfl ?_
            refine JL_skipU rfl rfl rfl ?_
            refine JL_skipU rfl rfl rfl ?_
            refine JL_skipU rfl rfl rfl ?_
            refine JL_skipU rfl rfl rfl ?_
            refine JL_skipU rfl rfl rfl ?_
            refine JL_skip rfl rfl q16 rfl ?_
            refine JL_guard rfl rfl q14 ?_
            refine JL_pd rfl (det_pick_t rfl q16 rfl) ?_
            refine JL_pd rfl (det_pick_t rfl q14 rfl) ?_
            exact hj (by kernel_rfl) (stsub_consB rfl (by clear hj; first | rfl | (simp only [q14, q15, q16, Bool.and_true, Bool.true_and, Bool.false_and, Bool.and_false, Bool.or_true, Bool.true_or, Bool.or_false, Bool.false_or, Bool.not_true, Bool.not_false]; done) | (simp [q14, q15, q16]; done) | (simp at q14; done) | (simp at q15; done) | (simp at q16; done) | (simp [q14, q15, q16] <;> omega) | (exfalso; simp at q14 q15 q16; omega) | (simp [q15, q16] at q14; done) | (simp [q14, q16] at q15; done) | (simp [q14, q15] at q16; done)) stsub_nil)
          · refine JL_guard rfl rfl q16 ?_
            refine JL_pd rfl (det_move rfl) ?_
            refine JL_guard rfl rfl q16 ?_
            refine JL_pd rfl (det_gtr rfl rfl) ?_
            refine JL_guard rfl rfl q16 ?_
            refine JL_pd rfl (det_move rfl) ?_
            refine JL_split (d0 := 36) rfl (fun q17 => ?_) (fun q17 => ?_)
            · refine JL_guard rfl rfl q17 ?_
              refine JL_pd rfl (det_fieldAddr rfl fo_63_1) ?_
              refine JL_guard rfl rfl q17 ?_
              refine JL_dt rfl (det_loadK rfl Try.isAgg3 rfl) ?_
              refine JL_guard rfl rfl q17 ?_
              refine JL_pd rfl (det_fieldAddr rfl fo_53_0) ?_
              refine JL_guard rfl rfl q17 ?_
              refine JL_dt rfl (det_loadK rfl Try.isAgg3 rfl) ?_
              refine JL_guard rfl rfl q17 ?_
              refine JL_pd rfl (det_eql rfl rfl) ?_
              refine JL_guard rfl rfl q16 ?_
              refine JL_pd rfl (det_pick_t rfl q17 rfl) ?_
              refine JL_guard rfl rfl q14 ?_
              refine JL_pd rfl (det_pick_f rfl q16 rfl) ?_
              refine JL_pd rfl (det_pick_t rfl q14 rfl) ?_
              exact hj (by kernel_rfl) (stsub_consB rfl (by clear hj; first | rfl | (simp only [q14, q15, q16, q17, Bool.and_true, Bool.true_and, Bool.false_and, Bool.and_false, Bool.or_true, Bool.true_or, Bool.or_false, Bool.false_or, Bool.not_true, Bool.not_false]; done) | (simp [q14, q15, q16, q17]; done) | (simp at q14; done) | (simp at q15; done) | (simp at q16; done) | (simp at q17; done) | (simp [q14, q15, q16, q17] <;> omega) | (exfalso; simp at q14 q15 q16 q17; omega) | (simp [q15, q16, q17] at q14; done) | (simp [q14, q16, q17] at q15; done) | (simp [q14, q15, q17] at q16; done) | (simp [q14, q15, q16] at q17; done)) stsub_nil)
            · refine JL_skip rfl rfl q17 rfl ?_
              refine JL_skip rfl rfl q17 rfl ?_
              refine JL_skip rfl rfl q17 rfl ?_
              refine JL_skip rfl rfl q17 rfl ?_
              refine JL_skip rfl rfl q17 rfl ?_
              refine JL_guard rfl rfl q16 ?_
              refine JL_pd rfl (det_pick_f rfl q17 rfl) ?_
              refine JL_guard rfl rfl q14 ?_
              refine JL_pd rfl (det_pick_f rfl q16 rfl) ?_
              refine JL_pd rfl (det_pick_t rfl q14 rfl) ?_
              exact hj (by kernel_rfl) (stsub_consB rfl (by clear hj; first | rfl | (simp only [q14, q15, q16, q17, Bool.and_true, Bool.true_and, Bool.false_and, Bool.and_false, Bool.or_true, Bool.true_or, Bool.or_false, Bool.false_or, Bool.not_true, Bool.not_false]; done) | (simp [q14, q15, q16, q17]; done) | (simp at q14; done) | (simp at q15; done) | (simp at q16; done) | (simp at q17; done) | (simp [q14, q15, q16, q17] <;> omega) | (exfalso; simp at q14 q15 q16 q17; omega) | (simp [q15, q16, q17] at q14; done) | (simp [q14, q16, q17] at q15; done) | (simp [q14, q15, q17] at q16; done) | (simp [q14, q15, q16] at q17; done)) stsub_nil)
        · refine JL_skip rfl rfl q15 rfl ?_
          refine JL_skip rfl rfl q15 rfl ?_
          refine JL_skip rfl rfl q15 rfl ?_
          refine JL_skip rfl rfl q15 rfl ?_
          refine JL_skip rfl rfl q15 rfl ?_
          refine JL_guard rfl rfl q14 ?_
          refine JL_pd rfl (det_pick_f rfl q15 rfl) ?_
          refine JL_guard rfl rfl q14 ?_
          refine JL_pd rfl (det_move rfl) ?_
          refine JL_split (d0 := 33) rfl (fun q18 => ?_) (fun q18 => ?_)
          · refine JL_skip rfl rfl q18 rfl ?_
            refine JL_skip rfl rfl q18 rfl ?_
            refine JL_skip rfl rfl q18 rfl ?_
            refine JL_skipU rfl rfl rfl ?_
            refine JL_skipU rfl rfl rfl ?_
            refine JL_skipU rfl rfl rfl ?_
            refine JL_skipU rfl rfl rfl ?_
            refine JL_skipU rfl rfl rfl ?_
            refine JL_skip rfl rfl q18 rfl ?_
            refine JL_guard rfl rfl q14 ?_
            refine JL_pd rfl (det_pick_t rfl q18 rfl) ?_
            refine JL_pd rfl (det_pick_t rfl q14 rfl) ?_
            exact hj (by kernel_rfl) (stsub_consB rfl (by clear hj; first | rfl | (simp only [q14, q15, q18, Bool.and_true, Bool.true_and, Bool.false_and, Bool.and_false, Bool.or_true, Bool.true_or, Bool.or_false, Bool.false_or, Bool.not_true, Bool.not_false]; done) | (simp [q14, q15, q18]; done) | (simp at q14; done) | (simp at q15; done) | (simp at q18; done) | (simp [q14, q15, q18] <;> omega) | (exfalso; simp at q14 q15 q18; omega) | (simp [q15, q18] at q14; done) | (simp [q14, q18] at q15; done) | (simp [q14, q15] at q18; done)) stsub_nil)
          · refine JL_guard rfl rfl q18 ?_
            refine JL_pd rfl (det_move rfl) ?_
            refine JL_guard rfl rfl q18 ?_
            refine JL_pd rfl (det_gtr rfl rfl) ?_
            refine JL_guard rfl rfl q18 ?_
            refine JL_pd rfl (det_move rfl) ?_
            refine JL_split (d0 := 36) rfl (fun q19 => ?_) (fun q19 => ?_)
            · refine JL_guard rfl rfl q19 ?_
              refine JL_pd rfl (det_fieldAddr rfl fo_63_1) ?_
              refine JL_guard rfl rfl q19 ?_
              refine JL_dt rfl (det_loadK rfl Try.isAgg3 rfl) ?_
              refine JL_guard rfl rfl q19 ?_
              refine JL_pd rfl (det_fieldAddr rfl fo_53_0) ?_
              refine JL_guard rfl rfl q19 ?_
              refine JL_dt rfl (det_loadK rfl Try.isAgg3 rfl) ?_
              refine JL_guard rfl rfl q19 ?_
              refine JL_pd rfl (det_eql rfl rfl) ?_
              refine JL_guard rfl rfl q18 ?_
              refine JL_pd rfl (det_pick_t rfl q19 rfl) ?_
              refine JL_guard rfl rfl q14 ?_
              refine JL_pd rfl (det_pick_f rfl q18 rfl) ?_
              refine JL_pd rfl (det_pick_t rfl q14 rfl) ?_
              exact hj (by kernel_rfl) (stsub_consB rfl (by clear hj; first | rfl | (simp only [q14, q15, q18, q19, Bool.and_true, Bool.true_and, Bool.false_and, Bool.and_false, Bool.or_true, Bool.true_or, Bool.or_false, Bool.false_or, Bool.not_true, Bool.not_false]; done) | (simp [q14, q15, q18, q19]; done) | (simp at q14; done) | (simp at q15; done) | (simp at q18; done) | (simp at q19; done) | (simp [q14, q15, q18, q19] <;> omega) | (exfalso; simp at q14 q15 q18 q19; omega) | (simp [q15, q18, q19] at q14; done) | (simp [q14, q18, q19] at q15; done) | (simp [q14, q15, q19] at q18; done) | (simp [q14, q15, q18] at q19; done)) stsub_nil)
            · refine JL_skip rfl rfl q19 rfl ?_
              refine JL_skip rfl rfl q19 rfl ?_
              refine JL_skip rfl rfl q19 rfl ?_
              refine JL_skip rfl rfl q19 rfl ?_
              refine JL_skip rfl rfl q19 rfl ?_
              refine JL_guard rfl rfl q18 ?_
              refine JL_pd rfl (det_pick_f rfl q19 rfl) ?_
              refine JL_guard rfl rfl q14 ?_
              refine JL_pd rfl (det_pick_f rfl q18 rfl) ?_
              refine JL_pd rfl (det_pick_t rfl q14 rfl) ?_
              exact hj (by kernel_rfl) (stsub_consB rfl (by clear hj; first | rfl | (simp only [q14, q15, q18, q19, Bool.and_true, Bool.true_and, Bool.false_and, Bool.and_false, Bool.or_true, Bool.true_or, Bool.or_false, Bool.false_or, Bool.not_true, Bool.not_false]; done) | (simp [q14, q15, q18, q19]; done) | (simp at q14; done) | (simp at q15; done) | (simp at q18; done) | (simp at q19; done) | (simp [q14, q15, q18, q19] <;> omega) | (exfalso; simp at q14 q15 q18 q19; omega) | (simp [q15, q18, q19] at q14; done) | (simp [q14, q18, q19] at q15; done) | (simp [q14, q15, q19] at q18; done) | (simp [q14, q15, q18] at q19; done)) stsub_nil)
      · refine JL_skip rfl rfl q14 rfl ?_
        refine JL_skip rfl rfl q14 rfl ?_
        refine JL_skip rfl rfl q14 rfl ?_
        refine JL_skipU rfl rfl rfl ?_
        refine JL_skipU rfl rfl rfl ?_
        refine JL_skipU rfl rfl rfl ?_
        refine JL_skipU rfl rfl rfl ?_
        refine JL_skipU rfl rfl rfl ?_
        refine JL_skip rfl rfl q14 rfl ?_
        refine JL_skip rfl rfl q14 rfl ?_
        refine JL_skipU rfl rfl rfl ?_
        refine JL_skipU rfl rfl rfl ?_
        refine JL_skipU rfl rfl rfl ?_
        refine JL_skipU rfl rfl rfl ?_
        refine JL_skipU rfl rfl rfl ?_
        refine JL_skipU rfl rfl rfl ?_
        refine JL_skipU rfl rfl rfl ?_
        refine JL_skipU rfl rfl rfl ?_
        refine JL_skipU rfl rfl rfl ?_
        refine JL_skip rfl rfl q14 rfl ?_
        refine JL_pd rfl (det_pick_f rfl q14 rfl) ?_
        exact hj (by kernel_rfl) (stsub_consB rfl (by clear hj; first | rfl | (simp only [q14, Bool.and_true, Bool.true_and, Bool.false_and, Bool.and_false, Bool.or_true, Bool.true_or, Bool.or_false, Bool.false_or, Bool.not_true, Bool.not_false]; done) | (simp [q14]; done) | (simp at q14; done) | (simp [q14] <;> omega) | (exfalso; simp at q14; omega)) stsub_nil)
    refine JL_nil ?_
    refine JE_seq ?_
    -- stop: cond
    rw [← e]
    refine JC_if rfl (fun h2 => ?_) (fun h2 => ?_)
    · refine JC_seq ?_
      refine JC_region ?_
      refine JL_pd rfl (det_assign rfl) ?_
      refine JL_nil ?_
      refine JE_seq ?_
      refine JC_ret ?_
      refine JE_block_ret ?_
      refine JE_seq_ret ?_
      refine JE_then_ret ?_
      refine JE_block_ret ?_
      refine JE_seq_ret ?_
      -- stop: out
      refine JE_out (.inl rfl) () (results1 Try.results94 (res_tmp rfl)) (by rw [decide_eq_true (show refAt s g ∈ ls by rw [h2]; exact List.getElem_mem hi2)]) (List.Perm.refl _) (fun _ _ => trivial)
    · refine JC_skip ?_
      refine JE_block ?_
      refine JE_seq ?_
      refine JC_region ?_
      refine JL_pd rfl (det_move rfl) ?_
      refine JL_pd rfl (det_add rfl rfl ⟨by omega, by omega⟩) ?_
      refine JL_pd rfl (det_assign rfl) ?_
      refine JL_nil ?_
      -- stop: end
      refine JE_roundF hK (i + 1) ⟨by omega, by rw [take_snoc hi2, List.mem_append, List.mem_singleton]; exact fun h => h.elim hno h2⟩ (by omega) (stsub_consI rfl (by omega) stsub_nil) ht_nil
  · obtain rfl : i = ls.length := by omega
    rw [List.take_length] at hno
    refine JC_exit ?_
    refine JE_seq_exit ?_
    refine JE_then_exit ?_
    refine JE_block_here ?_
    refine JE_seq ?_
    refine JC_seq ?_
    refine JC_region ?_
    refine JL_pd rfl (det_assign rfl) ?_
    refine JL_nil ?_
    refine JE_seq ?_
    refine JC_ret ?_
    -- stop: out
    refine JE_out (.inl rfl) () (results1 Try.results94 (res_tmp rfl)) (by rw [decide_eq_false hno]) (List.Perm.refl _) (fun _ _ => trivial)
theorem refAt_mem {m : Mc} {ls : List Lk} {s : Sd} {g : Int} (hg : g ≤ 7 ∨ ∀ l ∈ ls, l.sg ≤ 7) (h : ¬ (g = 6 ∨ g = 7) → 5 < g → False ∨ 7 < g) : (refAt s g ∈ ls ↔ lockAt s g ∈ ls) := by
  by_cases h7 : 7 < g
  · have hls := hg.resolve_left (by omega)
    constructor
    · intro hm
      have := hls _ hm
      unfold refAt at this
      split at this
      · omega
      · simp only at this; omega
    · intro hm
      have := hls _ hm
      unfold lockAt at this
      split at this
      · omega
      · simp only at this; omega
  · have e : refAt s g = lockAt s g := by
      unfold refAt lockAt
      by_cases h5 : g ≤ 5
      · rw [if_pos h5, if_neg (by omega)]
      · rw [if_neg h5, if_pos (by omega)]
    rw [e]
set_option maxRecDepth 100000 in
theorem Next_j (m : Mc) (a : MA) (ls : List Lk) (ka : Option Addr) (kc : Nat) (s : Sd) (g : Int) (hl : ls.length ≤ 1000) (hst : m.steps.length ≤ 1000) (hs : -1000 ≤ s.sp ∧ s.sp ≤ 1000) (hg : g ≤ 7 ∨ ∀ l ∈ ls, l.sg ≤ 7) :
    Cr Try.prog 76 [.agg #[I m.states, .slice a.sa m.steps.length a.sc, .slice a.ra m.running.length a.rc, .slice a.ka m.locks.length a.kc], .slice ka ls.length kc, .agg #[I s.st, I s.sp], I g] (KAnd (KMc m a) (KSl ka ls.length kc encLk ls)) (fun q : Option Addr × Nat => .slice q.1 (nextL m ls s g).length q.2) (fun q => KSl q.1 (nextL m ls s g).length q.2 encSd (nextL m ls s g)) := by
  have hat : (refAt s g ∈ ls ↔ lockAt s g ∈ ls) := refAt_mem (m := m) hg (by omega)
  refine Cx_of Try.func76 rfl Try.ntmps76 rfl fun w0 M0 => ?_
  refine JC_seq ?_
  refine JC_region ?_
  refine JL_step rfl rfl rfl (jo_box rfl rfl) fun b4 => ?_
  refine JL_step rfl rfl rfl (jo_box rfl rfl) fun b6 => ?_
  refine JL_pd rfl (det_assign rfl) ?_
  refine JL_nil ?_
  refine JE_seq ?_
  refine JC_seq ?_
  refine JC_seq ?_
  refine JC_region ?_
  refine JL_pd rfl (det_move rfl) ?_
  refine JL_dt rfl (det_loadKA rfl Try.isAgg53 Try.sizeOf53 rfl rfl) ?_
  refine JL_pd rfl (det_move rfl) ?_
  refine JL_step rfl rfl rfl (jo_callv rfl rfl Try.call94 rfl (Locked_j ls ka kc s g hl)) fun _ => ?_
  refine JL_nil ?_
  refine JE_seq ?_
  -- stop: cond
  refine JC_if rfl (fun h1 => ?_) (fun h1 => ?_)
  · have hn : nextL m ls s g = [] := by unfold nextL; rw [if_pos (hat.1 h1)]
    rw [hn]
    refine JC_seq ?_
    refine JC_region ?_
    refine JL_pd rfl (det_assign rfl) ?_
    refine JL_nil ?_
    refine JE_seq ?_
    refine JC_ret ?_
    refine JE_seq_ret ?_
    -- stop: out
    refine JE_out (.inl rfl) (none, 0) (results1 Try.results76 (res_tmp rfl)) rfl (List.Perm.refl _) (fun w _ => ⟨⟨Nat.le_refl _, by decide, fun _ => ⟨rfl, rfl⟩, fun h => absurd rfl h⟩, rfl⟩)
  · have hn : nextL m ls s g = moves m s g := by unfold nextL; rw [if_neg (fun h => h1 (hat.2 h))]
    rw [hn]
    refine JC_skip ?_
    refine JE_seq ?_
    refine JC_seq ?_
    refine JC_seq ?_
    refine JC_region ?_
    refine JL_pd rfl (det_move rfl) ?_
    refine JL_pd rfl (det_eql rfl rfl) ?_
    refine JL_nil ?_
    refine JE_seq ?_
    -- stop: cond
    refine JC_if rfl (fun h2 => ?_) (fun h2 => ?_)
    · subst h2
      refine JC_seq ?_
      refine JC_seq ?_
      refine JC_region ?_
      refine JL_pd rfl (det_fieldAddr rfl fo_53_1) ?_
      refine JL_dt rfl (det_loadK rfl Try.isAgg3 rfl) ?_
      refine JL_pd rfl (det_eql rfl rfl) ?_
      refine JL_nil ?_
      refine JE_seq ?_
      -- stop: cond
      refine JC_if rfl (fun h3 => ?_) (fun h3 => ?_)
      · have hm : moves m s 6 = [] := by unfold moves; rw [if_pos rfl, if_pos h3]
        rw [hm]
        refine JC_seq ?_
        refine JC_region ?_
        refine JL_pd rfl (det_assign rfl) ?_
        refine JL_nil ?_
        refine JE_seq ?_
        refine JC_ret ?_
        refine JE_seq_ret ?_
        refine JE_seq_ret ?_
        -- stop: out
        refine JE_out (.inl rfl) (none, 0) (results1 Try.results76 (res_tmp rfl)) rfl (List.Perm.refl _) (fun w _ => ⟨⟨Nat.le_refl _, by decide, fun _ => ⟨rfl, rfl⟩, fun h => absurd rfl h⟩, rfl⟩)
      · have hm : moves m s 6 = [⟨s.st, s.sp + 1⟩] := by unfold moves; rw [if_pos rfl, if_neg h3]
        rw [hm]
        refine JC_skip ?_
        refine JE_seq ?_
        refine JC_seq ?_
        refine JC_region ?_
        refine JL_pd rfl (det_fieldAddr rfl fo_53_0) ?_
        refine JL_dt rfl (det_loadK rfl Try.isAgg3 rfl) ?_
        refine JL_pd rfl (det_fieldAddr rfl fo_53_1) ?_
        refine JL_dt rfl (det_loadK rfl Try.isAgg3 rfl) ?_
        refine JL_pd rfl (det_add rfl rfl ⟨by omega, by omega⟩) ?_
        refine JL_pd rfl (det_build rfl (bld_53_0_1 _ _)) ?_
        refine JL_step rfl rfl rfl (jo_buildSlice rfl (bsl_41_1_0 _ _)) fun b27 => ?_
        refine JL_pd rfl (det_assign rfl) ?_
        refine JL_nil ?_
        refine JE_seq ?_
        refine JC_ret ?_
        refine JE_seq_ret ?_
        -- stop: out
        refine JE_lit (enc := encSd) b27 1 [⟨s.st, s.sp + 1⟩] noFp rfl rfl (by decide) ?_
        refine JE_out (.inl rfl) (some ⟨b27, 0, none⟩, 1) (results1 Try.results76 (res_tmp rfl)) rfl (List.Perm.refl _) (fun w h => h.1)
    · refine JC_skip ?_
      refine JE_seq ?_
      refine JC_seq ?_
      refine JC_seq ?_
      refine JC_region ?_
      refine JL_pd rfl (det_move rfl) ?_
      refine JL_pd rfl (det_eql rfl rfl) ?_
      refine JL_nil ?_
      refine JE_seq ?_
      -- stop: cond
      refine JC_if rfl (fun h3 => ?_) (fun h3 => ?_)
      · subst h3
        refine JC_seq ?_
        refine JC_seq ?_
        refine JC_region ?_
        refine JL_pd rfl (det_fieldAddr rfl fo_53_1) ?_
        refine JL_dt rfl (det_loadK rfl Try.isAgg3 rfl) ?_
        refine JL_pd rfl (det_eql rfl rfl) ?_
        refine JL_nil ?_
        refine JE_seq ?_
        -- stop: cond
        refine JC_if rfl (fun h4 => ?_) (fun h4 => ?_)
        · have hm : moves m s 7 = [] := by unfold moves; rw [if_neg (by decide), if_pos rfl, if_pos h4]
          rw [hm]
          refine JC_seq ?_
          refine JC_region ?_
          refine JL_pd rfl (det_assign rfl) ?_
          refine JL_nil ?_
          refine JE_seq ?_
          refine JC_ret ?_
          refine JE_seq_ret ?_
          refine JE_seq_ret ?_
          -- stop: out
          refine JE_out (.inl rfl) (none, 0) (results1 Try.results76 (res_tmp rfl)) rfl (List.Perm.refl _) (fun w _ => ⟨⟨Nat.le_refl _, by decide, fun _ => ⟨rfl, rfl⟩, fun h => absurd rfl h⟩, rfl⟩)
        · have hm : moves m s 7 = [⟨s.st, s.sp - 1⟩] := by unfold moves; rw [if_neg (by decide), if_pos rfl, if_neg h4]
          rw [hm]
          refine JC_skip ?_
          refine JE_seq ?_
          refine JC_seq ?_
          refine JC_region ?_
          refine JL_pd rfl (det_fieldAddr rfl fo_53_0) ?_
          refine JL_dt rfl (det_loadK rfl Try.isAgg3 rfl) ?_
          refine JL_pd rfl (det_fieldAddr rfl fo_53_1) ?_
          refine JL_dt rfl (det_loadK rfl Try.isAgg3 rfl) ?_
          refine JL_pd rfl (det_sub rfl rfl ⟨by omega, by omega⟩) ?_
          refine JL_pd rfl (det_build rfl (bld_53_0_1 _ _)) ?_
          refine JL_step rfl rfl rfl (jo_buildSlice rfl (bsl_41_1_0 _ _)) fun b39 => ?_
          refine JL_pd rfl (det_assign rfl) ?_
          refine JL_nil ?_
          refine JE_seq ?_
          refine JC_ret ?_
          refine JE_seq_ret ?_
          -- stop: out
          refine JE_lit (enc := encSd) b39 1 [⟨s.st, s.sp - 1⟩] noFp rfl rfl (by decide) ?_
          refine JE_out (.inl rfl) (some ⟨b39, 0, none⟩, 1) (results1 Try.results76 (res_tmp rfl)) rfl (List.Perm.refl _) (fun w h => h.1)
      · have hm : moves m s g = stepTo m s g := by unfold moves; rw [if_neg h2, if_neg h3]
        rw [hm]
        refine JC_skip ?_
        refine JE_seq ?_
        refine JC_seq ?_
        refine JC_region ?_
        refine JL_pd rfl (det_assign rfl) ?_
        refine JL_nil ?_
        refine JE_seq ?_
        refine JC_seq ?_
        refine JC_seq ?_
        refine JC_region ?_
        refine JL_pd rfl (det_assign rfl) ?_
        refine JL_nil ?_
        refine JE_seq ?_
        refine JC_block ?_
        -- stop: loop
        refine JC_nil 53 2 ?_
        refine JC_loopF (γ := Nat × Value) (fun q => q.1 ≤ m.steps.length) (fun q => [(10, I q.1), (9, q.2)]) (fun q => [ow q.2 53 2 (((m.steps.take q.1).filter fun x => decide (x.fr = s.st) && decide (x.sg = g)).map fun x => (⟨x.to_, s.sp⟩ : Sd)).length ((((m.steps.take q.1).filter fun x => decide (x.fr = s.st) && decide (x.sg = g)).map fun x => (⟨x.to_, s.sp⟩ : Sd)).flatMap encSd)]) (fun q => m.steps.length - q.1) (0, .slice none 0 0) (Nat.zero_le _) (stsub_consI rfl rfl (stsub_cons rfl stsub_nil)) (ht_ow rfl rfl ht_nil) ?_
        rintro ⟨i, v⟩ hi K hK
        dsimp only [List.cons_append, List.nil_append] at hi ⊢
        have hsn := fun h => stepTo_snoc m s g i h
        have hln : (((m.steps.take i).filter fun x => decide (x.fr = s.st) && decide (x.sg = g)).map fun x => (⟨x.to_, s.sp⟩ : Sd)).length ≤ i := by
          rw [List.length_map]
          refine Nat.le_trans (List.length_filter_le _ _) ?_
          rw [List.length_take]; omega
        have hfin : i = m.steps.length → (((m.steps.take i).filter fun x => decide (x.fr = s.st) && decide (x.sg = g)).map fun x => (⟨x.to_, s.sp⟩ : Sd)) = stepTo m s g := by
          rintro rfl; rw [List.take_length]; rfl
        generalize hxs : (((m.steps.take i).filter fun x => decide (x.fr = s.st) && decide (x.sg = g)).map fun x => (⟨x.to_, s.sp⟩ : Sd)) = xs at hsn hln hfin
        refine JC_seq ?_
        refine JC_seq ?_
        refine JC_region ?_
        refine JL_pd rfl (det_move rfl) ?_
        refine JL_pd rfl (det_fieldAddr rfl fo_26_1) ?_
        refine JL_dt rfl (det_loadK rfl Try.isAgg22 rfl) ?_
        refine JL_pd rfl (det_len rfl Try.runUnderlying22) ?_
        refine JL_pd rfl (det_lss rfl rfl) ?_
        refine JL_nil ?_
        refine JE_seq ?_
        -- stop: cond
        refine JC_if rfl (fun h5 => ?_) (fun h5 => ?_)
        · have hi2 : i < m.steps.length := by omega
          have hsn := hsn hi2
          refine JC_skip ?_
          refine JE_seq ?_
          refine JC_seq ?_
          refine JC_block ?_
          refine JC_seq ?_
          refine JC_region ?_
          refine JL_pd rfl (det_fieldAddr rfl fo_26_1) ?_
          refine JL_dt rfl (det_loadK rfl Try.isAgg22 rfl) ?_
          refine JL_pd rfl (det_move rfl) ?_
          refine JL_dt rfl (det_indexAddr rfl rfl (by first | rfl | omega) (by first | assumption | omega | decide) Try.runUnderlying22 Try.sizeOf70) ?_
          refine JL_dt rfl (det_loadEA rfl (by first | assumption | omega | decide) Try.isAgg70 Try.sizeOf70 rfl rfl rfl) ?_
          refine JL_step rfl rfl rfl (jo_alloc0 Try.zeroValue70 rfl) fun b11 => ?_
          refine JL_step0 rfl rfl (jo_store rfl rfl rfl (by first | (simp only [splice_norm]; done) | (simp only [splice_norm]; rfl) | rfl) Try.sizeOf70 rfl rfl) fun _ => ?_
          refine JL_nil ?_
          refine JE_seq ?_
          refine JC_seq ?_
          refine JC_region ?_
          refine JL_pd rfl (det_fieldAddr rfl fo_70_0) ?_
          refine JL_dt rfl (det_loadK rfl Try.isAgg3 rfl) ?_
          refine JL_pd rfl (det_fieldAddr rfl fo_53_0) ?_
          refine JL_dt rfl (det_loadK rfl Try.isAgg3 rfl) ?_
          refine JL_pd rfl (det_eql rfl rfl) ?_
          refine JL_pd rfl (det_move rfl) ?_
          -- stop: guard 5
          refine JL_join1 5 62 (.bool (decide (m.steps[i].fr = s.st) && decide (m.steps[i].sg = g))) (fun hj => ?_) ?_
          · refine JL_split (d0 := 57) rfl (fun q20 => ?_) (fun q20 => ?_)
            · refine JL_guard rfl rfl q20 ?_
              refine JL_pd rfl (det_fieldAddr rfl fo_70_2) ?_
              refine JL_guard rfl rfl q20 ?_
              refine JL_dt rfl (det_loadK rfl Try.isAgg3 rfl) ?_
              refine JL_guard rfl rfl q20 ?_
              refine JL_pd rfl (det_move rfl) ?_
              refine JL_guard rfl rfl q20 ?_
              refine JL_pd rfl (det_eql rfl rfl) ?_
              refine JL_pd rfl (det_pick_t rfl q20 rfl) ?_
              exact hj (by kernel_rfl) (stsub_consB rfl (by clear hj; first | rfl | (simp only [q20, Bool.and_true, Bool.true_and, Bool.false_and, Bool.and_false, Bool.or_true, Bool.true_or, Bool.or_false, Bool.false_or, Bool.not_true, Bool.not_false]; done) | (simp [q20]; done) | (simp at q20; done) | (simp [q20] <;> omega) | (exfalso; simp at q20; omega)) stsub_nil)
            · refine JL_skip rfl rfl q20 rfl ?_
              refine JL_skip rfl rfl q20 rfl ?_
              refine JL_skip rfl rfl q20 rfl ?_
              refine JL_skip rfl rfl q20 rfl ?_
              refine JL_pd rfl (det_pick_f rfl q20 rfl) ?_
              exact hj (by kernel_rfl) (stsub_consB rfl (by clear hj; first | rfl | (simp only [q20, Bool.and_true, Bool.true_and, Bool.false_and, Bool.and_false, Bool.or_true, Bool.true_or, Bool.or_false, Bool.false_or, Bool.not_true, Bool.not_false]; done) | (simp [q20]; done) | (simp at q20; done) | (simp [q20] <;> omega) | (exfalso; simp at q20; omega)) stsub_nil)
          refine JL_nil ?_
          refine JE_seq ?_
          -- stop: cond
          refine JC_cond rfl (fun h6 => ?_) (fun h6 => ?_)
          · simp only [Bool.and_eq_true, decide_eq_true_eq] at h6
            rw [if_pos h6] at hsn
            refine JC_region ?_
            refine JL_pd rfl (det_move rfl) ?_
            refine JL_pd rfl (det_fieldAddr rfl fo_70_1) ?_
            refine JL_dt rfl (det_loadK rfl Try.isAgg3 rfl) ?_
            refine JL_pd rfl (det_fieldAddr rfl fo_53_1) ?_
            refine JL_dt rfl (det_loadK rfl Try.isAgg3 rfl) ?_
            refine JL_pd rfl (det_build rfl (bld_53_0_1 _ _)) ?_
            refine JL_step rfl rfl rfl (jo_buildSlice rfl (bsl_41_1_0 _ _)) fun b69 => ?_
            refine JL_step rfl rfl rfl (jo_append el_41 rfl rfl rfl rfl (by omega)) fun b70 => ?_
            refine JL_pd rfl (det_assign rfl) ?_
            refine JL_nil ?_
            refine JE_block ?_
            refine JE_seq ?_
            refine JC_region ?_
            refine JL_pd rfl (det_move rfl) ?_
            refine JL_pd rfl (det_add rfl rfl ⟨by omega, by omega⟩) ?_
            refine JL_pd rfl (det_assign rfl) ?_
            refine JL_nil ?_
            -- stop: end
            refine JE_roundF hK (i + 1, .slice (some ⟨b70.1, 0, none⟩) (xs.length + 1) b70.2) (by simp only; omega) (by simp only; omega) (stsub_consI rfl (by simp only; omega) (stsub_cons rfl stsub_nil)) (ht_ow (by simp only; rw [hsn]; simp) (by simp only; rw [hsn]; simp [encSd]) ht_nil)
          · rw [if_neg (fun h => by simp [h.1, h.2] at h6), List.append_nil] at hsn
            refine JC_skip ?_
            refine JE_block ?_
            refine JE_seq ?_
            refine JC_region ?_
            refine JL_pd rfl (det_move rfl) ?_
            refine JL_pd rfl (det_add rfl rfl ⟨by omega, by omega⟩) ?_
            refine JL_pd rfl (det_assign rfl) ?_
            refine JL_nil ?_
            -- stop: end
            refine JE_roundF hK (i + 1, v) (by simp only; omega) (by simp only; omega) (stsub_consI rfl (by simp only; omega) (stsub_cons rfl stsub_nil)) (ht_ow (by simp only; rw [hsn]) (by simp only; rw [hsn]) ht_nil)
        · obtain rfl : i = m.steps.length := by omega
          rw [← hfin rfl]
          refine JC_slice (enc := encSd) (v := v) xs noFp rfl rfl ?_
          rintro av cv rfl
          refine JC_exit ?_
          refine JE_seq_exit ?_
          refine JE_then_exit ?_
          refine JE_block_here ?_
          refine JE_seq ?_
          refine JC_seq ?_
          refine JC_region ?_
          refine JL_pd rfl (det_move rfl) ?_
          refine JL_pd rfl (det_assign rfl) ?_
          refine JL_nil ?_
          refine JE_seq ?_
          refine JC_ret ?_
          -- stop: out
          refine JE_out (.inl rfl) (av, cv) (results1 Try.results76 (res_tmp rfl)) rfl (List.Perm.refl _) (fun w h => h.1)
end Go.Proofs.Ytgbfjcgjcnndpaa

/- Walks of the reference for cycle: rows of bools. -/
namespace Go.Proofs.Ytgbfjcgjcnndpaa
open Go.RowKit Go.Shelf

theorem encW_congr {a b : Nat → Bool} (h : ∀ n, n < 24 → a n = b n) : encW 24 a = encW 24 b := by
  unfold encW
  exact List.map_congr_left fun n hn => by rw [h n (List.mem_range.1 hn)]
theorem Begin_j : Cv Try.prog 47 [] KTrue (evB begW) := by
  refine Cx_of Try.func47 rfl Try.ntmps47 rfl fun w0 M0 => ?_
  refine JC_seq ?_
  refine JC_region ?_
  refine JL_step rfl rfl rfl (jo_alloc0 Try.zeroValue45 rfl) fun b0 => ?_
  refine JL_nil ?_
  refine JE_seq ?_
  refine JC_seq ?_
  refine JC_region ?_
  refine JL_step rfl rfl rfl (jo_alloc0 Try.zeroValue45 rfl) fun b1 => ?_
  refine JL_nil ?_
  refine JE_seq ?_
  refine JC_seq ?_
  refine JC_region ?_
  refine JL_pd rfl (det_indexArr (i := 0) rfl rfl (by first | rfl | omega) (by omega) Try.runUnderlying45 Try.sizeOf43) ?_
  refine JL_pd rfl (det_indexArr (i := 0) rfl rfl (by first | rfl | omega) (by omega) Try.runUnderlying43 Try.sizeOf4) ?_
  refine JL_step0 rfl rfl (jo_store (vs := [.bool true]) (cs := encW 24 fun _ => false) (cs' := encW 24 (updW (fun _ => false) 0 true)) rfl rfl rfl (encW_set 24 _ _ _) Try.sizeOf4 rfl rfl) fun _ => ?_
  refine JL_nil ?_
  refine JE_seq ?_
  refine JC_seq ?_
  refine JC_region ?_
  refine JL_dt rfl (det_loadKA (vs := encW 24 (updW (fun _ => false) 0 true)) rfl Try.isAgg45 Try.sizeOf45 (by rw [List.drop_zero]; exact List.take_of_length_le (by rw [encW_len]; decide)) (encW_len 24 _)) ?_
  refine JL_step0 rfl rfl (jo_store (vs := encW 24 (updW (fun _ => false) 0 true)) rfl rfl rfl (splice_whole (by rw [encW_len]; rfl)) Try.sizeOf45 (Nat.ble_eq_true_of_le (by rw [encW_len]; decide)) (encW_cells 24 _)) fun _ => ?_
  refine JL_nil ?_
  refine JE_seq ?_
  refine JC_ret ?_
  -- stop: out
  refine JE_out (.inl rfl) () (results1 Try.results47 (res_box rfl Try.isAgg45 Try.sizeOf45 rfl)) (by show Value.agg (encW 24 (updW (fun _ => false) 0 true)).toArray = evB begW; unfold evB; rw [encW_congr (a := updW (fun _ => false) 0 true) (b := begW) fun n _ => by unfold updW begW; by_cases h : n = 0 <;> simp [h]]) (List.Perm.refl _) (fun _ _ => trivial)
set_option maxRecDepth 100000 in
theorem Union_j (a b : Nat → Bool) : Cv Try.prog 62 [evB a, evB b] KTrue (evB (uniW a b)) := by
  refine Cx_of Try.func62 rfl Try.ntmps62 rfl fun w0 M0 => ?_
  refine JC_seq ?_
  refine JC_region ?_
  refine JL_step rfl rfl rfl (jo_box rfl rfl) fun b2 => ?_
  refine JL_step rfl rfl rfl (jo_box rfl rfl) fun b3 => ?_
  refine JL_step rfl rfl rfl (jo_alloc0 Try.zeroValue45 rfl) fun b4 => ?_
  refine JL_nil ?_
  refine JE_seq ?_
  refine JC_seq ?_
  refine JC_seq ?_
  refine JC_region ?_
  refine JL_pd rfl (det_assign rfl) ?_
  refine JL_nil ?_
  refine JE_seq ?_
  refine JC_block ?_
  -- stop: loop
  refine JC_keep b3 noFp ?_
  refine JC_loopF (γ := Nat × (Nat → Bool)) (fun q => q.1 ≤ 8 ∧ ∀ n, n < 24 → q.2 n = if n < q.1 * 3 then uniW a b n else a n) (fun q => [(5, I q.1)]) (fun q => [bx b2 (encW 24 q.2)]) (fun q => 8 - q.1) (0, a) ⟨Nat.zero_le _, fun n _ => by simp⟩ (stsub_consI rfl rfl stsub_nil) (ht_bx rfl ht_nil) ?_
  rintro ⟨i, A⟩ ⟨hi, hA⟩ K hK
  dsimp only [List.cons_append, List.nil_append] at hi hA ⊢
  refine JC_seq ?_
  refine JC_seq ?_
  refine JC_region ?_
  refine JL_pd rfl (det_move rfl) ?_
  refine JL_pd rfl (det_lss rfl rfl) ?_
  refine JL_nil ?_
  refine JE_seq ?_
  -- stop: cond
  refine JC_if rfl (fun h1 => ?_) (fun h1 => ?_)
  · have hi2 : i < 8 := by omega
    refine JC_skip ?_
    refine JE_seq ?_
    refine JC_seq ?_
    refine JC_block ?_
    refine JC_seq ?_
    refine JC_region ?_
    refine JL_pd rfl (det_assign rfl) ?_
    refine JL_nil ?_
    refine JE_seq ?_
    refine JC_block ?_
    -- stop: loop
    refine JC_loopF (γ := Nat × (Nat → Bool)) (fun q => q.1 ≤ 3 ∧ ∀ n, n < 24 → q.2 n = if n < i * 3 + q.1 then uniW a b n else a n) (fun q => [(6, I q.1)]) (fun q => [bx b2 (encW 24 q.2)]) (fun q => 3 - q.1) (0, A) ⟨Nat.zero_le _, hA⟩ (stsub_consI rfl rfl stsub_nil) (ht_bx rfl ht_nil) ?_
    rintro ⟨j, B⟩ ⟨hj, hB⟩ K2 hK2
    dsimp only [List.cons_append, List.nil_append] at hj hB ⊢
    refine JC_seq ?_
    refine JC_seq ?_
    refine JC_region ?_
    refine JL_pd rfl (det_move rfl) ?_
    refine JL_pd rfl (det_lss rfl rfl) ?_
    refine JL_nil ?_
    refine JE_seq ?_
    -- stop: cond
    refine JC_if rfl (fun h2 => ?_) (fun h2 => ?_)
    · have hj2 : j < 3 := by omega
      have hoff : 0 + i * 3 + j * 1 = i * 3 + j := by omega
      have hBn := hB (i * 3 + j) (by omega)
      rw [if_neg (by omega)] at hBn
      refine JC_skip ?_
      refine JE_seq ?_
      refine JC_seq ?_
      refine JC_block ?_
      refine JC_draw [16] (by kernel_rfl) ?_
      refine JA_pd (i := 0) rfl (by kernel_rfl) rfl rfl (det_move rfl) ?_
      refine JA_pd (i := 1) rfl (by kernel_rfl) rfl rfl (det_move rfl) ?_
      refine JA_pd (i := 2) rfl (by kernel_rfl) rfl rfl (det_move rfl) ?_
      refine JA_pd (i := 3) rfl (by kernel_rfl) rfl rfl (det_move rfl) ?_
      refine JA_pd (i := 4) rfl (by kernel_rfl) rfl rfl (det_indexArr (i := i) rfl rfl (by first | rfl | omega) (by omega) Try.runUnderlying45 Try.sizeOf43) ?_
      refine JA_pd (i := 5) rfl (by kernel_rfl) rfl rfl (det_indexArr (i := j) rfl rfl (by first | rfl | omega) (by omega) Try.runUnderlying43 Try.sizeOf4) ?_
      refine JA_dt (i := 6) rfl (by kernel_rfl) (by kernel_rfl) rfl rfl (det_loadK (v := .bool (B (i * 3 + j))) rfl Try.isAgg4 (by rw [hoff]; exact encW_get (by omega))) ?_
      refine JA_pd (i := 7) rfl (by kernel_rfl) rfl rfl (det_move rfl) ?_
      -- stop: guard 7
      refine JA_split (d0 := 22) rfl (fun k1 => ?_) (fun k1 => ?_)
      · have hu : uniW a b (i * 3 + j) = true := by unfold uniW; rw [← hBn, k1]; rfl
        refine JA_skip (i := 8) rfl (by kernel_rfl) rfl rfl rfl rfl k1 ?_
        refine JA_skip (i := 9) rfl (by kernel_rfl) rfl rfl rfl rfl k1 ?_
        refine JA_skip (i := 10) rfl (by kernel_rfl) rfl rfl rfl rfl k1 ?_
        refine JA_skip (i := 11) rfl (by kernel_rfl) rfl rfl rfl rfl k1 ?_
        refine JA_skip (i := 12) rfl (by kernel_rfl) rfl rfl rfl rfl k1 ?_
        refine JA_pd (i := 13) rfl (by kernel_rfl) rfl rfl (det_pick_t rfl k1 rfl) ?_
        refine JA_pd (i := 14) rfl (by kernel_rfl) rfl rfl (det_indexArr (i := i) rfl rfl (by first | rfl | omega) (by omega) Try.runUnderlying45 Try.sizeOf43) ?_
        refine JA_pd (i := 15) rfl (by kernel_rfl) rfl rfl (det_indexArr (i := j) rfl rfl (by first | rfl | omega) (by omega) Try.runUnderlying43 Try.sizeOf4) ?_
        refine JA_tail (i := 16) (by kernel_rfl) rfl rfl rfl rfl (jo_store (vs := [.bool true]) (cs := encW 24 B) (cs' := encW 24 (updW B (i * 3 + j) true)) rfl rfl rfl (by rw [hoff]; exact encW_set 24 _ _ _) Try.sizeOf4 (Nat.ble_eq_true_of_le (by rw [encW_len, hoff]; show _ + 1 ≤ 24; omega)) rfl) fun _ => ?_
        refine JT_done (by kernel_rfl) ?_
        refine JE_block ?_
        refine JE_seq ?_
        refine JC_region ?_
        refine JL_pd rfl (det_move rfl) ?_
        refine JL_pd rfl (det_add rfl rfl ⟨by omega, by omega⟩) ?_
        refine JL_pd rfl (det_assign rfl) ?_
        refine JL_nil ?_
        -- stop: end
        refine JE_roundF hK2 (j + 1, updW B (i * 3 + j) true) ⟨by simp only; omega, fun n hn => ?_⟩ (by simp only; omega) (stsub_consI rfl (by simp only; omega) stsub_nil) (ht_bx rfl ht_nil)
        show (if n = i * 3 + j then true else B n) = _
        by_cases e : n = i * 3 + j
        · subst e; rw [if_pos rfl, if_pos (by simp only; omega), hu]
        · rw [if_neg e, hB n hn]
          by_cases e2 : n < i * 3 + j
          · rw [if_pos e2, if_pos (by simp only; omega)]
          · rw [if_neg e2, if_neg (by simp only; omega)]
      · have hu : uniW a b (i * 3 + j) = b (i * 3 + j) := by unfold uniW; rw [← hBn, k1]; rfl
        refine JA_gpd (i := 8) rfl (by kernel_rfl) rfl rfl rfl rfl k1 (det_move rfl) ?_
        refine JA_gpd (i := 9) rfl (by kernel_rfl) rfl rfl rfl rfl k1 (det_move rfl) ?_
        refine JA_gpd (i := 10) rfl (by kernel_rfl) rfl rfl rfl rfl k1 (det_indexArr (i := i) rfl rfl (by first | rfl | omega) (by omega) Try.runUnderlying45 Try.sizeOf43) ?_
        refine JA_gpd (i := 11) rfl (by kernel_rfl) rfl rfl rfl rfl k1 (det_indexArr (i := j) rfl rfl (by first | rfl | omega) (by omega) Try.runUnderlying43 Try.sizeOf4) ?_
        refine JA_gdt (i := 12) rfl (by kernel_rfl) (by kernel_rfl) rfl rfl rfl rfl k1 (det_loadK (v := .bool (b (i * 3 + j))) rfl Try.isAgg4 (by rw [hoff]; exact encW_get (by omega))) ?_
        refine JA_pd (i := 13) rfl (by kernel_rfl) rfl rfl (det_pick_f rfl k1 rfl) ?_
        refine JA_pd (i := 14) rfl (by kernel_rfl) rfl rfl (det_indexArr (i := i) rfl rfl (by first | rfl | omega) (by omega) Try.runUnderlying45 Try.sizeOf43) ?_
        refine JA_pd (i := 15) rfl (by kernel_rfl) rfl rfl (det_indexArr (i := j) rfl rfl (by first | rfl | omega) (by omega) Try.runUnderlying43 Try.sizeOf4) ?_
        refine JA_tail (i := 16) (by kernel_rfl) rfl rfl rfl rfl (jo_store (vs := [.bool (b (i * 3 + j))]) (cs := encW 24 B) (cs' := encW 24 (updW B (i * 3 + j) (b (i * 3 + j)))) rfl rfl rfl (by rw [hoff]; exact encW_set 24 _ _ _) Try.sizeOf4 (Nat.ble_eq_true_of_le (by rw [encW_len, hoff]; show _ + 1 ≤ 24; omega)) rfl) fun _ => ?_
        refine JT_done (by kernel_rfl) ?_
        refine JE_block ?_
        refine JE_seq ?_
        refine JC_region ?_
        refine JL_pd rfl (det_move rfl) ?_
        refine JL_pd rfl (det_add rfl rfl ⟨by omega, by omega⟩) ?_
        refine JL_pd rfl (det_assign rfl) ?_
        refine JL_nil ?_
        -- stop: end
        refine JE_roundF hK2 (j + 1, updW B (i * 3 + j) (b (i * 3 + j))) ⟨by simp only; omega, fun n hn => ?_⟩ (by simp only; omega) (stsub_consI rfl (by simp only; omega) stsub_nil) (ht_bx rfl ht_nil)
        show (if n = i * 3 + j then b (i * 3 + j) else B n) = _
        by_cases e : n = i * 3 + j
        · subst e; rw [if_pos rfl, if_pos (by simp only; omega), hu]
        · rw [if_neg e, hB n hn]
          by_cases e2 : n < i * 3 + j
          · rw [if_pos e2, if_pos (by simp only; omega)]
          · rw [if_neg e2, if_neg (by simp only; omega)]
    · obtain rfl : j = 3 := by omega
      refine JC_exit ?_
      refine JE_seq_exit ?_
      refine JE_then_exit ?_
      refine JE_block_here ?_
      refine JE_block ?_
      refine JE_seq ?_
      refine JC_region ?_
      refine JL_pd rfl (det_move rfl) ?_
      refine JL_pd rfl (det_add rfl rfl ⟨by omega, by omega⟩) ?_
      refine JL_pd rfl (det_assign rfl) ?_
      refine JL_nil ?_
      -- stop: end
      refine JE_roundF hK (i + 1, B) ⟨by simp only; omega, fun n hn => by simp only; rw [hB n hn, Nat.add_mul, Nat.one_mul]⟩ (by simp only; omega) (stsub_consI rfl (by simp only; omega) stsub_nil) (ht_bx rfl ht_nil)
  · obtain rfl : i = 8 := by omega
    refine JC_exit ?_
    refine JE_seq_exit ?_
    refine JE_then_exit ?_
    refine JE_block_here ?_
    refine JE_seq ?_
    refine JC_seq ?_
    refine JC_region ?_
    refine JL_dt rfl (det_loadKA (vs := encW 24 (A)) rfl Try.isAgg45 Try.sizeOf45 (by rw [List.drop_zero]; exact List.take_of_length_le (by rw [encW_len]; decide)) (encW_len 24 _)) ?_
    refine JL_step0 rfl rfl (jo_store (vs := encW 24 (A)) rfl rfl rfl (splice_whole (by rw [encW_len]; rfl)) Try.sizeOf45 (Nat.ble_eq_true_of_le (by rw [encW_len]; decide)) (encW_cells 24 _)) fun _ => ?_
    refine JL_nil ?_
    refine JE_seq ?_
    refine JC_ret ?_
    -- stop: out
    refine JE_out (.inl rfl) () (results1 Try.results62 (res_box rfl Try.isAgg45 Try.sizeOf45 rfl)) (by show Value.agg (encW 24 A).toArray = _; rw [encW_congr (b := uniW a b) fun n hn => by rw [hA n hn, if_pos (by omega)]]; rfl) (List.Perm.refl _) (fun _ _ => trivial)
theorem nextL_len {m : Mc} (V : Valid m) (ls : List Lk) (s : Sd) (g : Int) : (nextL m ls s g).length ≤ 24 := by
  have hs : (stepTo m s g).length ≤ 24 := by
    unfold stepTo
    rw [List.length_map]
    exact Nat.le_trans (List.length_filter_le _ _) V.ns
  unfold nextL moves
  split
  · simp
  · split
    · split <;> simp
    · split
      · split <;> simp
      · exact hs
set_option maxRecDepth 100000 in
set_option maxHeartbeats 1000000 in
theorem Behind_j (m : Mc) (a : MA) (ls : List Lk) (ka : Option Addr) (kc : Nat) (w : Nat → Bool) (g : Int) (V : Valid m) (hl : ls.length ≤ 1000) (hw : WIn m w) (hg : g ≤ 7 ∨ ∀ l ∈ ls, l.sg ≤ 7) :
    Cv Try.prog 48 [.agg #[I m.states, .slice a.sa m.steps.length a.sc, .slice a.ra m.running.length a.rc, .slice a.ka m.locks.length a.kc], .slice ka ls.length kc, evB w, I g] (KAnd (KMc m a) (KSl ka ls.length kc encLk ls)) (evB (behW m ls w g)) := by
  have hst := V.ns
  have s2 := V.s2
  refine Cx_of Try.func48 rfl Try.ntmps48 rfl fun w0 M0 => ?_
  refine JC_seq ?_
  refine JC_region ?_
  refine JL_step rfl rfl rfl (jo_box rfl rfl) fun b4 => ?_
  refine JL_step rfl rfl rfl (jo_box rfl rfl) fun b6 => ?_
  refine JL_step rfl rfl rfl (jo_alloc0 Try.zeroValue45 rfl) fun b8 => ?_
  refine JL_nil ?_
  refine JE_seq ?_
  refine JC_seq ?_
  refine JC_region ?_
  refine JL_step rfl rfl rfl (jo_alloc0 Try.zeroValue45 rfl) fun b9 => ?_
  refine JL_nil ?_
  refine JE_seq ?_
  refine JC_seq ?_
  refine JC_seq ?_
  refine JC_region ?_
  refine JL_pd rfl (det_assign rfl) ?_
  refine JL_nil ?_
  refine JE_seq ?_
  refine JC_block ?_
  -- stop: loop
  refine JC_keep b6 noFp ?_
  refine JC_keep b4 noFp ?_
  refine JC_loopF (γ := Nat × (Nat → Bool)) (fun q => q.1 ≤ 8 ∧ ∀ k, k < 24 → (q.2 k = true ↔ ∃ n, n < q.1 * 3 ∧ w n = true ∧ sdOf k ∈ nextL m ls (sdOf n) g)) (fun q => [(10, I q.1)]) (fun q => [bx b9 (encW 24 q.2)]) (fun q => 8 - q.1) (0, fun _ => false) ⟨Nat.zero_le _, fun k _ => ⟨(fun h => by cases h), fun ⟨n, h, _⟩ => by omega⟩⟩ (stsub_consI rfl rfl stsub_nil) (ht_bx rfl ht_nil) ?_
  rintro ⟨i, A⟩ ⟨hi, hA⟩ K hK
  dsimp only [List.cons_append, List.nil_append] at hi hA ⊢
  refine JC_seq ?_
  refine JC_seq ?_
  refine JC_region ?_
  refine JL_pd rfl (det_move rfl) ?_
  refine JL_pd rfl (det_lss rfl rfl) ?_
  refine JL_nil ?_
  refine JE_seq ?_
  -- stop: cond
  refine JC_if rfl (fun h1 => ?_) (fun h1 => ?_)
  · have hi2 : i < 8 := by omega
    refine JC_skip ?_
    refine JE_seq ?_
    refine JC_seq ?_
    refine JC_block ?_
    refine JC_seq ?_
    refine JC_region ?_
    refine JL_pd rfl (det_assign rfl) ?_
    refine JL_nil ?_
    refine JE_seq ?_
    refine JC_block ?_
    -- stop: loop
    refine JC_loopF (γ := Nat × (Nat → Bool)) (fun q => q.1 ≤ 3 ∧ ∀ k, k < 24 → (q.2 k = true ↔ ∃ n, n < i * 3 + q.1 ∧ w n = true ∧ sdOf k ∈ nextL m ls (sdOf n) g)) (fun q => [(11, I q.1)]) (fun q => [bx b9 (encW 24 q.2)]) (fun q => 3 - q.1) (0, A) ⟨Nat.zero_le _, hA⟩ (stsub_consI rfl rfl stsub_nil) (ht_bx rfl ht_nil) ?_
    rintro ⟨j, B⟩ ⟨hj, hB⟩ K2 hK2
    dsimp only [List.cons_append, List.nil_append] at hj hB ⊢
    refine JC_seq ?_
    refine JC_seq ?_
    refine JC_region ?_
    refine JL_pd rfl (det_move rfl) ?_
    refine JL_pd rfl (det_lss rfl rfl) ?_
    refine JL_nil ?_
    refine JE_seq ?_
    -- stop: cond
    refine JC_if rfl (fun h2 => ?_) (fun h2 => ?_)
    · have hj2 : j < 3 := by omega
      have hoff : 0 + i * 3 + j * 1 = i * 3 + j := by omega
      refine JC_skip ?_
      refine JE_seq ?_
      refine JC_seq ?_
      refine JC_block ?_
      refine JC_seq ?_
      refine JC_seq ?_
      refine JC_region ?_
      refine JL_pd rfl (det_move rfl) ?_
      refine JL_pd rfl (det_move rfl) ?_
      refine JL_pd rfl (det_indexArr (i := i) rfl rfl (by first | rfl | omega) (by omega) Try.runUnderlying45 Try.sizeOf43) ?_
      refine JL_pd rfl (det_indexArr (i := j) rfl rfl (by first | rfl | omega) (by omega) Try.runUnderlying43 Try.sizeOf4) ?_
      refine JL_dt rfl (det_loadK (v := .bool (w (i * 3 + j))) rfl Try.isAgg4 (by rw [hoff]; exact encW_get (by omega))) ?_
      refine JL_pd rfl (det_not rfl) ?_
      refine JL_nil ?_
      refine JE_seq ?_
      -- stop: cond
      refine JC_cond rfl (fun h3 => ?_) (fun h3 => ?_)
      · have h3' : w (i * 3 + j) = false := by simpa using h3
        refine JC_exit ?_
        refine JE_seq_exit ?_
        refine JE_block_here ?_
        refine JE_seq ?_
        refine JC_region ?_
        refine JL_pd rfl (det_move rfl) ?_
        refine JL_pd rfl (det_add rfl rfl ⟨by omega, by omega⟩) ?_
        refine JL_pd rfl (det_assign rfl) ?_
        refine JL_nil ?_
        -- stop: end
        refine JE_roundF hK2 (j + 1, B) ⟨by simp only; omega, fun k hk => ?_⟩ (by simp only; omega) (stsub_consI rfl (by simp only; omega) stsub_nil) (ht_bx rfl ht_nil)
        simp only
        rw [hB k hk]
        refine ⟨fun ⟨n, q1, q2⟩ => ⟨n, by omega, q2⟩, fun ⟨n, q1, q2⟩ => ⟨n, ?_, q2⟩⟩
        by_cases e : n = i * 3 + j
        · subst e; rw [h3'] at q2; cases q2.1
        · omega
      · have h3' : w (i * 3 + j) = true := by simpa using h3
        have hin := hw (i * 3 + j) (by omega) h3'
        have hsd : sdOf (i * 3 + j) = ⟨(i : Int), (j : Int)⟩ := by unfold sdOf; rw [show (i * 3 + j) / 3 = i by omega, show (i * 3 + j) % 3 = j by omega]
        have hnx := Next_j m a ls ka kc ⟨(i : Int), (j : Int)⟩ g hl (by omega) (by simp only; omega) hg
        have hLin : ∀ t ∈ nextL m ls ⟨(i : Int), (j : Int)⟩ g, InM m t := fun t ht => next_in V (by rw [← hsd]; exact hin) ht
        have hLen : (nextL m ls ⟨(i : Int), (j : Int)⟩ g).length ≤ 24 := nextL_len V _ _ _
        rw [hsd] at hin
        have hB2 : ∀ k, (∃ n, n < i * 3 + (j + 1) ∧ w n = true ∧ sdOf k ∈ nextL m ls (sdOf n) g) ↔ (∃ n, n < i * 3 + j ∧ w n = true ∧ sdOf k ∈ nextL m ls (sdOf n) g) ∨ sdOf k ∈ nextL m ls ⟨(i : Int), (j : Int)⟩ g := fun k => by
          constructor
          · rintro ⟨n, q1, q2, q3⟩
            by_cases e : n = i * 3 + j
            · subst e; rw [hsd] at q3; exact .inr q3
            · exact .inl ⟨n, by omega, q2, q3⟩
          · rintro (⟨n, q1, q2⟩ | q3)
            · exact ⟨n, by omega, q2⟩
            · exact ⟨i * 3 + j, by omega, h3', by rw [hsd]; exact q3⟩
        generalize nextL m ls ⟨(i : Int), (j : Int)⟩ g = L at hnx hLin hLen hB2
        refine JC_skip ?_
        refine JE_seq ?_
        refine JC_seq ?_
        refine JC_region ?_
        refine JL_dt rfl (det_loadKA rfl Try.isAgg26 Try.sizeOf26 rfl rfl) ?_
        refine JL_pd rfl (det_move rfl) ?_
        refine JL_pd rfl (det_move rfl) ?_
        refine JL_pd rfl (det_move rfl) ?_
        refine JL_pd rfl (det_build rfl (bld_53_0_1 _ _)) ?_
        refine JL_pd rfl (det_move rfl) ?_
        -- stop: op  6 t34 := (call (Call (value f76) (t28 t29 t32 t33) (26 24 53 3)))   <0 1 4 5>   96
        refine JL_step rfl rfl rfl (jo_call rfl rfl Try.call76 rfl (hnx)) fun ⟨la, lc⟩ => ?_
        refine JL_pd rfl (det_assign rfl) ?_
        refine JL_nil ?_
        refine JE_seq ?_
        refine JC_seq ?_
        refine JC_region ?_
        refine JL_pd rfl (det_assign rfl) ?_
        refine JL_nil ?_
        refine JE_seq ?_
        refine JC_block ?_
        -- stop: loop
        refine JC_loopF (γ := Nat × (Nat → Bool)) (fun q => q.1 ≤ L.length ∧ ∀ k, k < 24 → (q.2 k = true ↔ (∃ n, n < i * 3 + j ∧ w n = true ∧ sdOf k ∈ nextL m ls (sdOf n) g) ∨ sdOf k ∈ L.take q.1)) (fun q => [(13, I q.1)]) (fun q => [bx b9 (encW 24 q.2)]) (fun q => L.length - q.1) (0, B) ⟨Nat.zero_le _, fun k hk => by rw [hB k hk]; simp⟩ (stsub_consI rfl rfl stsub_nil) (ht_bx rfl ht_nil) ?_
        rintro ⟨q, C⟩ ⟨hq, hC⟩ K3 hK3
        dsimp only [List.cons_append, List.nil_append] at hq hC ⊢
        refine JC_seq ?_
        refine JC_seq ?_
        refine JC_region ?_
        refine JL_pd rfl (det_move rfl) ?_
        refine JL_pd rfl (det_move rfl) ?_
        refine JL_pd rfl (det_len rfl Try.runUnderlying41) ?_
        refine JL_pd rfl (det_lss rfl rfl) ?_
        refine JL_nil ?_
        refine JE_seq ?_
        -- stop: cond
        refine JC_if rfl (fun h4 => ?_) (fun h4 => ?_)
        · have hq2 : q < L.length := by omega
          have hxin := hLin _ (List.getElem_mem hq2)
          have htk := take_snoc hq2
          have hixx := hxin.ix V
          have hix := hixx.1
          obtain ⟨p1, p2, p3, p4⟩ := hxin
          have hoff2 : 0 + L[q].st.toNat * 3 + L[q].sp.toNat * 1 = ix L[q] := by unfold ix; omega
          refine JC_skip ?_
          refine JE_seq ?_
          refine JC_seq ?_
          refine JC_block ?_
          refine JC_draw [12] (by kernel_rfl) ?_
          refine JA_pd (i := 0) rfl (by kernel_rfl) rfl rfl (det_move rfl) ?_
          refine JA_pd (i := 1) rfl (by kernel_rfl) rfl rfl (det_move rfl) ?_
          refine JA_dt (i := 2) rfl (by kernel_rfl) (by kernel_rfl) rfl rfl (det_indexAddr rfl rfl (by first | rfl | omega) (by first | assumption | omega | decide) Try.runUnderlying41 Try.sizeOf53) ?_
          refine JA_pd (i := 3) rfl (by kernel_rfl) rfl rfl (det_fieldAddrE rfl fo_53_0) ?_
          refine JA_dt (i := 4) rfl (by kernel_rfl) (by kernel_rfl) rfl rfl (det_loadEk rfl (by first | assumption | omega | decide) Try.isAgg3 rfl rfl) ?_
          refine JA_pd (i := 5) rfl (by kernel_rfl) rfl rfl (det_move rfl) ?_
          refine JA_pd (i := 6) rfl (by kernel_rfl) rfl rfl (det_move rfl) ?_
          refine JA_dt (i := 7) rfl (by kernel_rfl) (by kernel_rfl) rfl rfl (det_indexAddr rfl rfl (by first | rfl | omega) (by first | assumption | omega | decide) Try.runUnderlying41 Try.sizeOf53) ?_
          refine JA_pd (i := 8) rfl (by kernel_rfl) rfl rfl (det_fieldAddrE rfl fo_53_1) ?_
          refine JA_dt (i := 9) rfl (by kernel_rfl) (by kernel_rfl) rfl rfl (det_loadEk rfl (by first | assumption | omega | decide) Try.isAgg3 rfl rfl) ?_
          refine JA_pd (i := 10) rfl (by kernel_rfl) rfl rfl (det_indexArr (i := L[q].st.toNat) rfl rfl (by first | rfl | omega) (by omega) Try.runUnderlying45 Try.sizeOf43) ?_
          refine JA_pd (i := 11) rfl (by kernel_rfl) rfl rfl (det_indexArr (i := L[q].sp.toNat) rfl rfl (by first | rfl | omega) (by omega) Try.runUnderlying43 Try.sizeOf4) ?_
          refine JA_tail (i := 12) (by kernel_rfl) rfl rfl rfl rfl (jo_store (vs := [.bool true]) (cs := encW 24 C) (cs' := encW 24 (updW C (ix L[q]) true)) rfl rfl rfl (by rw [hoff2]; exact encW_set 24 _ _ _) Try.sizeOf4 (Nat.ble_eq_true_of_le (by rw [encW_len, hoff2]; show _ + 1 ≤ 24; omega)) rfl) fun _ => ?_
          refine JT_done (by kernel_rfl) ?_
          refine JE_block ?_
          refine JE_seq ?_
          refine JC_region ?_
          refine JL_pd rfl (det_move rfl) ?_
          refine JL_pd rfl (det_add rfl rfl ⟨by omega, by omega⟩) ?_
          refine JL_pd rfl (det_assign rfl) ?_
          refine JL_nil ?_
          -- stop: end
          refine JE_roundF hK3 (q + 1, updW C (ix L[q]) true) ⟨by simp only; omega, fun k hk => ?_⟩ (by simp only; omega) (stsub_consI rfl (by simp only; omega) stsub_nil) (ht_bx rfl ht_nil)
          show (if k = ix L[q] then true else C k) = true ↔ _ ∨ sdOf k ∈ L.take (q + 1)
          rw [htk, List.mem_append, List.mem_singleton, ← or_assoc, ← hC k hk]
          by_cases e : k = ix L[q]
          · rw [if_pos e, e, hixx.2]; simp
          · rw [if_neg e]
            refine ⟨.inl, fun h => h.resolve_right fun h2 => e ?_⟩
            rw [← h2, ix_sd]
        · obtain rfl : q = L.length := by omega
          rw [List.take_length] at hC
          refine JC_exit ?_
          refine JE_seq_exit ?_
          refine JE_then_exit ?_
          refine JE_block_here ?_
          refine JE_block ?_
          refine JE_seq ?_
          refine JC_region ?_
          refine JL_pd rfl (det_move rfl) ?_
          refine JL_pd rfl (det_add rfl rfl ⟨by omega, by omega⟩) ?_
          refine JL_pd rfl (det_assign rfl) ?_
          refine JL_nil ?_
          -- stop: end
          refine JE_roundF hK2 (j + 1, C) ⟨by simp only; omega, fun k hk => by simp only; rw [hC k hk, hB2 k]⟩ (by simp only; omega) (stsub_consI rfl (by simp only; omega) stsub_nil) (ht_bx rfl ht_nil)
    · obtain rfl : j = 3 := by omega
      refine JC_exit ?_
      refine JE_seq_exit ?_
      refine JE_then_exit ?_
      refine JE_block_here ?_
      refine JE_block ?_
      refine JE_seq ?_
      refine JC_region ?_
      refine JL_pd rfl (det_move rfl) ?_
      refine JL_pd rfl (det_add rfl rfl ⟨by omega, by omega⟩) ?_
      refine JL_pd rfl (det_assign rfl) ?_
      refine JL_nil ?_
      -- stop: end
      refine JE_roundF hK (i + 1, B) ⟨by simp only; omega, fun k hk => by simp only; rw [hB k hk, Nat.add_mul, Nat.one_mul]⟩ (by simp only; omega) (stsub_consI rfl (by simp only; omega) stsub_nil) (ht_bx rfl ht_nil)
  · obtain rfl : i = 8 := by omega
    refine JC_exit ?_
    refine JE_seq_exit ?_
    refine JE_then_exit ?_
    refine JE_block_here ?_
    refine JE_seq ?_
    refine JC_seq ?_
    refine JC_region ?_
    refine JL_dt rfl (det_loadKA (vs := encW 24 (A)) rfl Try.isAgg45 Try.sizeOf45 (by rw [List.drop_zero]; exact List.take_of_length_le (by rw [encW_len]; decide)) (encW_len 24 _)) ?_
    refine JL_step0 rfl rfl (jo_store (vs := encW 24 (A)) rfl rfl rfl (splice_whole (by rw [encW_len]; rfl)) Try.sizeOf45 (Nat.ble_eq_true_of_le (by rw [encW_len]; decide)) (encW_cells 24 _)) fun _ => ?_
    refine JL_nil ?_
    refine JE_seq ?_
    refine JC_ret ?_
    -- stop: out
    refine JE_out (.inl rfl) () (results1 Try.results48 (res_box rfl Try.isAgg45 Try.sizeOf45 rfl)) (by show Value.agg (encW 24 A).toArray = _; rw [encW_congr (b := behW m ls w g) fun n hn => by rw [Bool.eq_iff_iff, hA n hn, behW_iff]]; rfl) (List.Perm.refl _) (fun _ _ => trivial)
end Go.Proofs.Ytgbfjcgjcnndpaa

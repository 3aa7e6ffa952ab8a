/- Which locks serve (plain), and the reference's Serve. -/
import Derived.Test.YtgbfjcgjcnndpaaC41
set_option linter.unusedSimpArgs false
set_option linter.unusedVariables false
namespace Go.Proofs.Ytgbfjcgjcnndpaa
open Go.RowKit Go.Shelf

/-- Locks serve: of what can be without any, all that is no danger still can be, and nothing else. -/
def serveB (m : Mc) (ls : List Lk) : Bool := (reachL m []).all fun s => !(decide (decide (s ∈ reachL m ls) = dangerB m s))
theorem serve_iff {m : Mc} (V : Valid m) {ls : List Lk} : serveB m ls = true ↔ ∀ s, Rch m [] s → (Rch m ls s ↔ dangerB m s = false) := by
  unfold serveB
  rw [List.all_eq_true]
  constructor
  · intro h s hs
    have h1 := h s ((mem_reachL V).2 hs)
    rw [← mem_reachL V (ls := ls)]
    by_cases hm : s ∈ reachL m ls <;> cases hd : dangerB m s <;> simp_all
  · intro h s hs
    have h1 := h s ((mem_reachL V).1 hs)
    rw [← mem_reachL V (ls := ls)] at h1
    by_cases hm : s ∈ reachL m ls <;> cases hd : dangerB m s <;> simp_all
theorem rch_sub {m : Mc} {A B : List Lk} (h : ∀ l ∈ B, l ∈ A) {s : Sd} (hs : Rch m A s) : Rch m B s := by
  induction hs with
  | zero => exact .zero
  | step _ hst ih =>
    obtain ⟨g, hg, ht⟩ := hst
    refine .step ih ⟨g, hg, ?_⟩
    unfold nextL at ht ⊢
    split at ht
    · cases ht
    · rename_i hno
      rw [if_neg fun hm => hno (h _ hm)]
      exact ht
theorem rch_free {m : Mc} {A : List Lk} {s : Sd} (hs : Rch m A s) : Rch m [] s := rch_sub (fun _ h => by cases h) hs
theorem danger_zero (m : Mc) : dangerB m ⟨0, 0⟩ = false := by simp [dangerB]
/-- All locks that are needed are in each list that serves. -/
theorem need_all {m : Mc} (V : Valid m) {ls : List Lk} (h : serveB m ls = true) {l : Lk} (hl : needB m l = true) : l ∈ ls := by
  have hs := (serve_iff V).1 h
  obtain ⟨s, h1, g, hg, h3, h4, t, h5, h6⟩ := needB_iff.1 hl
  have r1 := (mem_reachL V).1 h1
  have r2 := (hs s r1).2 h3
  apply Classical.byContradiction
  intro hno
  have r3 : Rch m ls t := .step r2 ⟨g, hg, by unfold nextL; rw [h4, if_neg hno]; exact h5⟩
  have := (hs t (rch_free r3)).1 r3
  rw [h6] at this; cases this
/-- With all needed locks no danger can be. -/
theorem due_safe {m : Mc} (V : Valid m) {D : List Lk} (hD : ∀ l, needB m l = true → l ∈ D) {s : Sd} (hs : Rch m D s) : dangerB m s = false := by
  induction hs with
  | zero => exact danger_zero m
  | @step s t hs hst ih =>
    obtain ⟨g, hg, ht⟩ := hst
    unfold nextL at ht
    split at ht
    · cases ht
    · rename_i hno
      cases hd : dangerB m t with
      | false => rfl
      | true => exact absurd (hD _ (needB_iff.2 ⟨s, (mem_reachL V).2 (rch_free hs), g, hg, ih, rfl, t, ht, hd⟩)) hno
theorem due_serves {m : Mc} (V : Valid m) {D : List Lk} (hD : ∀ l, l ∈ D ↔ needB m l = true) {ls : List Lk} (h : serveB m ls = true) : serveB m D = true :=
  (serve_iff V).2 fun s hs => ⟨due_safe V fun l hl => (hD l).2 hl, fun hd => rch_sub (fun l hl => need_all V h ((hD l).1 hl)) (((serve_iff V).1 h s hs).2 hd)⟩
theorem same_serve {m : Mc} (V : Valid m) {D : List Lk} : sameW (rchW m D) (dueW m) = serveB m D := by
  rw [Bool.eq_iff_iff, sameW_iff, serve_iff V]
  have key : ∀ s, (decide (s ∈ reachL m D) = (decide (s ∈ reachL m []) && !dangerB m s)) ↔ (Rch m D s ↔ Rch m [] s ∧ dangerB m s = false) := fun s => by
    rw [← mem_reachL V (ls := D), ← mem_reachL V (ls := []), Bool.eq_iff_iff]
    simp
  constructor
  · intro h s hs
    obtain ⟨h1, h2⟩ := (hs.inM V).ix V
    have := h (ix s) h1
    unfold rchW dueW at this
    rw [h2] at this
    have := (key s).1 this
    exact ⟨fun h => (this.1 h).2, fun h => this.2 ⟨hs, h⟩⟩
  · intro h j hj
    unfold rchW dueW
    exact (key _).2 ⟨fun hr => ⟨rch_free hr, (h _ (rch_free hr)).1 hr⟩, fun hr => (h _ hr.1).2 hr.2⟩
theorem rch_wo {m : Mc} {ls x : List Lk} {s : Sd} (h : Rch (wo m x) ls s) : Rch m ls s := by
  induction h with
  | zero => exact .zero
  | step _ hst ih => exact .step ih hst
theorem wo_rch {m : Mc} {ls x : List Lk} {s : Sd} (h : Rch m ls s) : Rch (wo m x) ls s := by
  induction h with
  | zero => exact .zero
  | step _ hst ih => exact .step ih hst
/-- All about the locks of Locks. -/
structure Fw (m : Mc) (D : List Lk) : Prop where
  len : D.length ≤ 34
  ok : serveB m D = true
  need : ∀ l ∈ D, ∀ ls, serveB m ls = true → l ∈ ls
  fa : fault (wo m D) = 0
  safe : safeB (wo m D) = true
  less : ∀ i, i < D.length → fault (wo m (D.take i ++ D.drop (i + 1))) = 0 ∧ safeB (wo m (D.take i ++ D.drop (i + 1))) = false
theorem fault_wo {m : Mc} (he : fault m = 0) {ls : List Lk} (h1 : ls.length ≤ 40) (h2 : ∀ l ∈ ls, okLock m l = true) : fault (wo m ls) = 0 := by
  have h := fault_iff.1 he
  exact fault_iff.2 ⟨h.ns, h1, h.s, h.st, h.run, h2, h.up⟩
theorem fewest {m : Mc} (he : fault m = 0) : (locksE m = 9 ∧ locksR m = [] ∧ ∀ ls, serveB m ls = false) ∨ (locksE m = 0 ∧ Fw m (locksR m)) := by
  have V := valid_of he
  obtain ⟨D, hm, hs, hlen, h1, h2⟩ := dueD V
  rw [same_serve V] at h1 h2
  have hok : ∀ l ∈ D, okLock m l = true := fun l hl => need_ok V ((hm l).1 hl)
  cases hD : serveB m D with
  | false =>
    obtain ⟨e1, e2⟩ := h2 hD
    refine .inl ⟨e2, e1, fun ls => ?_⟩
    cases hl : serveB m ls with
    | false => rfl
    | true => rw [due_serves V hm hl] at hD; cases hD
  | true =>
    obtain ⟨e1, e2⟩ := h1 hD
    refine .inr ⟨e2, ?_⟩
    rw [e1]
    have hsv := (serve_iff V).1 hD
    refine ⟨hlen, hD, fun l hl ls hx => need_all V hx ((hm l).1 hl), fault_wo he (by omega) hok, ?_, fun i hi => ?_⟩
    · refine (safe_iff (V.wo (by omega) hok)).2 fun s hr => due_safe V (fun l hl => (hm l).2 hl) (rch_wo hr)
    · have hsub : ∀ l ∈ D.take i ++ D.drop (i + 1), l ∈ D := fun l hl => by
        rcases List.mem_append.1 hl with h | h
        · exact List.mem_of_mem_take h
        · exact List.mem_of_mem_drop h
      have hle : (D.take i ++ D.drop (i + 1)).length ≤ 40 := by rw [List.length_append, List.length_take, List.length_drop]; omega
      have hf := fault_wo he hle fun l hl => hok l (hsub l hl)
      refine ⟨hf, ?_⟩
      cases hsf : safeB (wo m (D.take i ++ D.drop (i + 1))) with
      | false => rfl
      | true =>
        have hall := (safe_iff (valid_of hf)).1 hsf
        obtain ⟨s, r1, g, hg, r3, r4, t, r5, r6⟩ := needB_iff.1 ((hm _).1 (List.getElem_mem hi))
        have hno : D[i] ∉ D.take i ++ D.drop (i + 1) := by
          have hnd := sorted_nodup hs
          have e : D = D.take i ++ D[i] :: D.drop (i + 1) := by rw [← List.drop_eq_getElem_cons hi, List.take_append_drop]
          rw [e] at hnd
          have hp := List.nodup_append.1 hnd
          have hc := List.nodup_cons.1 hp.2.1
          intro hx
          rcases List.mem_append.1 hx with h | h
          · exact hp.2.2 _ h _ (List.mem_cons_self ..) rfl
          · exact hc.1 h
        have q1 := (hsv s ((mem_reachL V).1 r1)).2 r3
        have q2 : Rch m (D.take i ++ D.drop (i + 1)) t := .step (rch_sub hsub q1) ⟨g, hg, by unfold nextL; rw [r4, if_neg hno]; exact r5⟩
        have := hall t (wo_rch q2)
        have e : dangerB (wo m (D.take i ++ D.drop (i + 1))) t = dangerB m t := rfl
        rw [e, r6] at this; cases this
set_option maxRecDepth 100000 in
theorem Serve_j (m : Mc) (a : MA) (ls : List Lk) (ka : Option Addr) (kc : Nat) (V : Valid m) (hl : ls.length ≤ 1000) : Cv Try.prog 42 [.agg #[I m.states, .slice a.sa m.steps.length a.sc, .slice a.ra m.running.length a.rc, .slice a.ka m.locks.length a.kc], .slice ka ls.length kc] (KAnd (KMc m a) (KSl ka ls.length kc encLk ls)) (.bool (serveB m ls)) := by
  have hrn := V.nr
  have s2 := V.s2
  have hsd : serveB m ls = (reachL m []).all fun s => !(decide (rchW m ls (ix s) = dangerB m s)) := by
    unfold serveB
    rw [Bool.eq_iff_iff, List.all_eq_true, List.all_eq_true]
    refine forall_congr' fun s => forall_congr' fun hs => ?_
    have h2 := ((((mem_reachL V).1 hs).inM V).ix V).2
    unfold rchW
    rw [h2]
  rw [hsd]
  have hR0 := Reach_j m a [] none 0 V (by simp)
  have hR1 := Reach_j m a ls ka kc V hl
  have hS := RStands_j (rchW m [])
  rw [standsW_rch] at hS
  have hin : ∀ s ∈ reachL m [], InM m s ∧ ix s < 24 := fun s hs => ⟨((mem_reachL V).1 hs).inM V, ((((mem_reachL V).1 hs).inM V).ix V).1⟩
  have hlen := reach_len m []
  generalize reachL m [] = L at hS hin hlen ⊢
  generalize rchW m ls = W at hR1 ⊢
  generalize rchW m [] = W0 at hR0 hS
  refine Cx_of Try.func42 rfl Try.ntmps42 rfl fun w0 M0 => ?_
  refine JC_seq ?_
  refine JC_region ?_
  refine JL_step rfl rfl rfl (jo_box rfl rfl) fun b2 => ?_
  refine JL_pd rfl (det_assign rfl) ?_
  refine JL_nil ?_
  refine JE_seq ?_
  refine JC_seq ?_
  refine JC_region ?_
  refine JL_dt rfl (det_loadKA rfl Try.isAgg26 Try.sizeOf26 rfl rfl) ?_
  -- stop: op  1 t9 := (call (Call (value f25) (t8 (slice none 0 0)) (26 24)))   <0>   253
  refine JL_step rfl rfl rfl (jo_callv rfl rfl Try.call25 rfl (hR0)) fun _ => ?_
  refine JL_step rfl rfl rfl (jo_call rfl rfl Try.call24 rfl (hS)) fun x10 => ?_
  refine JL_pd rfl (det_assign rfl) ?_
  refine JL_nil ?_
  refine JE_seq ?_
  refine JC_seq ?_
  refine JC_region ?_
  refine JL_dt rfl (det_loadKA rfl Try.isAgg26 Try.sizeOf26 rfl rfl) ?_
  refine JL_pd rfl (det_move rfl) ?_
  -- stop: op  2 t13 := (call (Call (value f25) (t11 t12) (26 24)))   <0 1>   254
  refine JL_step rfl rfl rfl (jo_callv rfl rfl Try.call25 rfl (hR1)) fun _ => ?_
  refine JL_step rfl rfl rfl (jo_alloc0 Try.zeroValue45 rfl) fun b6 => ?_
  refine JL_step0 rfl rfl (jo_store (vs := encW 24 W) rfl rfl rfl (splice_whole (by rw [encW_len]; rfl)) Try.sizeOf45 (Nat.ble_eq_true_of_le (by rw [encW_len]; decide)) (encW_cells 24 _)) fun _ => ?_
  refine JL_nil ?_
  refine JE_seq ?_
  refine JC_seq ?_
  refine JC_seq ?_
  refine JC_region ?_
  refine JL_pd rfl (det_assign rfl) ?_
  refine JL_nil ?_
  refine JE_seq ?_
  refine JC_block ?_
  -- stop: loop
  refine JC_keep b2 noFp ?_
  refine JC_keep b6 noFp ?_
  refine JC_loopF (γ := Nat) (fun i => i ≤ L.length ∧ ((L.take i).all fun s => !(decide (W (ix s) = dangerB m s))) = true) (fun i => [(7, I i)]) (fun _ => []) (fun i => L.length - i) 0 ⟨Nat.zero_le _, by simp⟩ (stsub_consI rfl rfl stsub_nil) ht_nil ?_
  rintro i ⟨hi, hx⟩ K hK
  dsimp only [List.cons_append, List.nil_append] at hi hx ⊢
  refine JC_seq ?_
  refine JC_seq ?_
  refine JC_region ?_
  refine JL_pd rfl (det_move rfl) ?_
  refine JL_pd rfl (det_move rfl) ?_
  refine JL_pd rfl (det_len rfl Try.runUnderlying41) ?_
  refine JL_pd rfl (det_lss rfl rfl) ?_
  refine JL_nil ?_
  refine JE_seq ?_
  -- stop: cond
  refine JC_if rfl (fun h1 => ?_) (fun h1 => ?_)
  · have hi2 : i < L.length := by omega
    obtain ⟨⟨p1, p2, p3, p4⟩, hix⟩ := hin _ (List.getElem_mem hi2)
    have htk := take_snoc hi2
    have hoff : 0 + L[i].st.toNat * 3 + L[i].sp.toNat * 1 = ix L[i] := by unfold ix; omega
    refine JC_skip ?_
    refine JE_seq ?_
    refine JC_seq ?_
    refine JC_block ?_
    refine JC_seq ?_
    refine JC_draw [] (by kernel_rfl) ?_
    refine JA_pd (i := 0) rfl (by kernel_rfl) rfl rfl (det_move rfl) ?_
    refine JA_pd (i := 1) rfl (by kernel_rfl) rfl rfl (det_move rfl) ?_
    refine JA_dt (i := 2) rfl (by kernel_rfl) (by kernel_rfl) rfl rfl (det_indexAddr rfl rfl (by first | rfl | omega) (by first | assumption | omega | decide) Try.runUnderlying41 Try.sizeOf53) ?_
    refine JA_pd (i := 3) rfl (by kernel_rfl) rfl rfl (det_fieldAddrE rfl fo_53_0) ?_
    refine JA_dt (i := 4) rfl (by kernel_rfl) (by kernel_rfl) rfl rfl (det_loadEk rfl (by first | assumption | omega | decide) Try.isAgg3 rfl rfl) ?_
    refine JA_pd (i := 5) rfl (by kernel_rfl) rfl rfl (det_move rfl) ?_
    refine JA_pd (i := 6) rfl (by kernel_rfl) rfl rfl (det_move rfl) ?_
    refine JA_dt (i := 7) rfl (by kernel_rfl) (by kernel_rfl) rfl rfl (det_indexAddr rfl rfl (by first | rfl | omega) (by first | assumption | omega | decide) Try.runUnderlying41 Try.sizeOf53) ?_
    refine JA_pd (i := 8) rfl (by kernel_rfl) rfl rfl (det_fieldAddrE rfl fo_53_1) ?_
    refine JA_dt (i := 9) rfl (by kernel_rfl) (by kernel_rfl) rfl rfl (det_loadEk rfl (by first | assumption | omega | decide) Try.isAgg3 rfl rfl) ?_
    refine JA_pd (i := 10) rfl (by kernel_rfl) rfl rfl (det_indexArr (i := L[i].st.toNat) rfl rfl (by omega) (by omega) Try.runUnderlying45 Try.sizeOf43) ?_
    refine JA_pd (i := 11) rfl (by kernel_rfl) rfl rfl (det_indexArr (i := L[i].sp.toNat) rfl rfl (by omega) (by omega) Try.runUnderlying43 Try.sizeOf4) ?_
    refine JA_dt (i := 12) rfl (by kernel_rfl) (by kernel_rfl) rfl rfl (det_loadK (v := .bool (W (ix L[i]))) rfl Try.isAgg4 (by rw [hoff]; exact encW_get hix)) ?_
    refine JA_dt (i := 13) rfl (by kernel_rfl) (by kernel_rfl) rfl rfl (det_loadKA rfl Try.isAgg26 Try.sizeOf26 rfl rfl) ?_
    refine JA_pd (i := 14) rfl (by kernel_rfl) rfl rfl (det_move rfl) ?_
    refine JA_pd (i := 15) rfl (by kernel_rfl) rfl rfl (det_move rfl) ?_
    refine JA_dt (i := 16) rfl (by kernel_rfl) (by kernel_rfl) rfl rfl (det_indexAddr rfl rfl (by first | rfl | omega) (by first | assumption | omega | decide) Try.runUnderlying41 Try.sizeOf53) ?_
    refine JA_dt (i := 17) rfl (by kernel_rfl) (by kernel_rfl) rfl rfl (det_loadEA (vs := [I L[i].st, I L[i].sp]) rfl (by first | assumption | omega | decide) Try.isAgg53 Try.sizeOf53 rfl rfl rfl) ?_
    refine JA_one (i := 18) (by kernel_rfl) rfl rfl (jo_callv rfl rfl Try.call50 rfl (IsDanger_j m a L[i] (by omega))) (fun _ => ⟨hsub_refl, fun _ h => h⟩) fun _ => ?_
    refine JA_pd (i := 19) rfl (by kernel_rfl) rfl rfl (det_eqlB rfl rfl Try.underlying4) ?_
    refine JA_done (by kernel_rfl) ?_
    refine JE_seq ?_
    -- stop: cond
    refine JC_cond rfl (fun h2 => ?_) (fun h2 => ?_)
    · have hno : (L.all fun s => !(decide (W (ix s) = dangerB m s))) = false := by
        cases hA : L.all fun s => !(decide (W (ix s) = dangerB m s)) with
        | false => rfl
        | true =>
          have := List.all_eq_true.1 hA _ (List.getElem_mem hi2)
          have h2' : W (ix L[i]) = dangerB m L[i] := by simpa using h2
          rw [h2'] at this
          simp at this
      refine JC_seq ?_
      refine JC_region ?_
      refine JL_pd rfl (det_assign rfl) ?_
      refine JL_nil ?_
      refine JE_seq ?_
      refine JC_ret ?_
      refine JE_block_ret ?_
      refine JE_seq_ret ?_
      refine JE_then_ret ?_
      refine JE_block_ret ?_
      refine JE_seq_ret ?_
      -- stop: out
      refine JE_out (.inl rfl) () (results1 Try.results42 (res_tmp rfl)) (by rw [hno]) (List.Perm.refl _) (fun _ _ => trivial)
    · refine JC_skip ?_
      refine JE_block ?_
      refine JE_seq ?_
      refine JC_region ?_
      refine JL_pd rfl (det_move rfl) ?_
      refine JL_pd rfl (det_add rfl rfl ⟨by omega, by omega⟩) ?_
      refine JL_pd rfl (det_assign rfl) ?_
      refine JL_nil ?_
      -- stop: end
      refine JE_roundF hK (i + 1) ⟨by omega, by rw [htk, List.all_append, hx]; simpa using h2⟩ (by omega) (stsub_consI rfl (by omega) stsub_nil) ht_nil
  · obtain rfl : i = L.length := by omega
    rw [List.take_length] at hx
    refine JC_exit ?_
    refine JE_seq_exit ?_
    refine JE_then_exit ?_
    refine JE_block_here ?_
    refine JE_seq ?_
    refine JC_seq ?_
    refine JC_region ?_
    refine JL_pd rfl (det_assign rfl) ?_
    refine JL_nil ?_
    refine JE_seq ?_
    refine JC_ret ?_
    -- stop: out
    refine JE_out (.inl rfl) () (results1 Try.results42 (res_tmp rfl)) (by rw [hx]) (List.Perm.refl _) (fun _ _ => trivial)
end Go.Proofs.Ytgbfjcgjcnndpaa

/- The statements about cycle: what came in; CycleStands. -/
import Derived.Test.YtgbfjcgjcnndpaaB8
import Derived.Test.YtgbfjcgjcnndpaaB3
set_option linter.unusedSimpArgs false
set_option linter.unusedVariables false
namespace Go.Proofs.Ytgbfjcgjcnndpaa
open Go.ChangeShapes Go.WideShapes Go.ChangeAt Go.RowKit Go.Deep Go.Joins

theorem opensI : OpensTo Try.prog 3 encI := (opens_int Try.underlying3).to id fun _ => rfl
theorem opensSp : OpensTo Try.prog 70 encSp :=
  (opens_struct3 Try.underlying70 opensI opensI opensI rfl (by kernel_rfl) (by kernel_rfl) (by kernel_rfl)).to (fun p => ⟨p.1, p.2.1, p.2.2⟩) fun _ => rfl
theorem opensLk : OpensTo Try.prog 63 encLk :=
  (opens_struct2 Try.underlying63 opensI opensI rfl (by kernel_rfl) (by kernel_rfl)).to (fun p => ⟨p.1, p.2⟩) fun _ => rfl
theorem opensSd : OpensTo Try.prog 53 encSd :=
  (opens_struct2 Try.underlying53 opensI opensI rfl (by kernel_rfl) (by kernel_rfl)).to (fun p => ⟨p.1, p.2⟩) fun _ => rfl
set_option maxRecDepth 100000 in
theorem open_mach {H : Type} {enc : TypeId × Value → H} {w : World} {r : Reach} {b0 base : Nat} {sp : Nat → Bool} {held : Bool} {v : Value} {d : DataW H} {p : List MemPlace} (hv : Value.okWide Try.prog w r b0 26 v) (h : DataW.Trod enc Try.prog w base sp held 26 v d p) :
    ∃ (m : Mc) (a : MA), v = .agg #[I m.states, .slice a.sa m.steps.length a.sc, .slice a.ra m.running.length a.rc, .slice a.ka m.locks.length a.kc] ∧ KMc m a w := by
  obtain ⟨v0, v1, v2, v3, y0, y1, y2, y3, n, rfl, _, _, t0, t1, t2, t3⟩ := open_agg4 Try.underlying26 (by kernel_rfl) (by kernel_rfl) hv h
  obtain ⟨b, e0, _⟩ := DataW.trod_int Try.underlying3 t0
  obtain ⟨sa, sc, ss, e1, k1⟩ := opens_slice Try.underlying22 opensSp (by kernel_rfl) t1
  obtain ⟨ra, rc, rs, e2, k2⟩ := opens_slice Try.underlying23 opensI (by kernel_rfl) t2
  obtain ⟨ka, kc, ks, e3, k3⟩ := opens_slice Try.underlying24 opensLk (by kernel_rfl) t3
  simp only [List.cons.injEq, and_true] at e0 e1 e2 e3
  subst e0 e1 e2 e3
  exact ⟨⟨b, ss, rs, ks⟩, ⟨sa, ra, ka, sc, rc, kc⟩, rfl, k1, k2, k3⟩
theorem KMc.below {m : Mc} {a : MA} {w w' : World} (h : KMc m a w) (hb : Below w.heap.size w w') : KMc m a w' := ⟨h.1.below hb, h.2.1.below hb, h.2.2.below hb⟩
theorem thin_lens {m : Mc} (h : thinB m = true) : m.steps.length ≤ 30 ∧ m.locks.length ≤ 45 ∧ m.running.length ≤ 12 := by
  unfold thinB at h
  simp only [Bool.and_eq_true, decide_eq_true_eq] at h
  exact ⟨h.1.1, h.1.2, h.2⟩
theorem standsW_rch (m : Mc) (ls : List Lk) : standsW (rchW m ls) = reachL m ls := by
  obtain ⟨p, hp⟩ := levL_form m ls 24
  rw [standsW_all]
  show _ = levL m ls 24
  have : ∀ s, s ∈ all24 → rchW m ls (ix s) = p s := fun s hs => by
    obtain ⟨a, b, c, d⟩ := mem_all.1 hs
    show decide (sdOf (ix s) ∈ levL m ls 24) = p s
    rw [sd_ix a c d, hp, Bool.eq_iff_iff, decide_eq_true_eq, List.mem_filter]
    exact ⟨fun h => h.2, fun h => ⟨hs, h⟩⟩
  rw [hp]
  exact List.filter_congr this
set_option maxRecDepth 100000 in
theorem CycleStands_j (m : Mc) (a : MA) : Cv Try.prog 3 [.agg #[I m.states, .slice a.sa m.steps.length a.sc, .slice a.ra m.running.length a.rc, .slice a.ka m.locks.length a.kc]] (KMc m a) (.bool true) := by
  have hsr := standsW_rch m m.locks
  have hrl := reach_len m m.locks
  refine Cx_of Try.func3 rfl Try.ntmps3 rfl fun w0 M0 => ?_
  refine JC_seq ?_
  refine JC_region ?_
  refine JL_step rfl rfl rfl (jo_box rfl rfl) fun b1 => ?_
  refine JL_pd rfl (det_assign rfl) ?_
  refine JL_nil ?_
  refine JE_seq ?_
  refine JC_seq ?_
  refine JC_seq ?_
  refine JC_region ?_
  refine JL_dt rfl (det_loadKA rfl Try.isAgg26 Try.sizeOf26 rfl rfl) ?_
  refine JL_step rfl rfl rfl (jo_callv rfl rfl Try.call17 rfl (Thin_j m a)) fun _ => ?_
  refine JL_pd rfl (det_not rfl) ?_
  refine JL_nil ?_
  refine JE_seq ?_
  -- stop: cond
  refine JC_cond rfl (fun h1 => ?_) (fun h1 => ?_)
  · refine JC_seq ?_
    refine JC_region ?_
    refine JL_step rfl rfl rfl (jo_callv rfl rfl Try.call18 rfl (wakes_j)) fun _ => ?_
    refine JL_pd rfl (det_assign rfl) ?_
    refine JL_nil ?_
    refine JE_seq ?_
    refine JC_ret ?_
    refine JE_seq_ret ?_
    -- stop: out
    refine JE_out (.inl rfl) () (results1 Try.results3 (res_tmp rfl)) rfl (List.Perm.refl _) (fun _ _ => trivial)
  · have hth := thin_lens (m := m) (by simpa using h1)
    by_cases he : fault m = 0
    · have V := valid_of he
      have hlk := V.nl
      have hst := Stands_jo m
      have hre := Reach_j m a m.locks a.ka a.kc V (by omega)
      have hrs := RStands_j (rchW m m.locks)
      rw [hsr] at hrs
      have hss := fun la rb lc rc => lstands_j (reachL m m.locks) (reachL m m.locks) la rb lc rc (by omega)
      generalize reachL m m.locks = L at hst hrs hss hrl
      refine JC_skip ?_
      refine JE_seq ?_
      refine JC_seq ?_
      refine JC_region ?_
      refine JL_dt rfl (det_loadKA rfl Try.isAgg26 Try.sizeOf26 rfl rfl) ?_
      refine JL_step rfl rfl rfl (jo_call rfl rfl Try.call20 rfl (Machine_j m a (by omega) (by omega) (by omega))) fun x12 => ?_
      -- stop: op  2 t13 := (call (Call (value f19) (t12) (34)))   <1 1>   70
      refine JL_step rfl rfl rfl (jo_callv rfl rfl Try.call19 rfl (CheckMachine_j m x12)) fun _ => ?_
      refine JL_pd rfl (det_assign rfl) ?_
      refine JL_nil ?_
      refine JE_seq ?_
      refine JC_seq ?_
      refine JC_region ?_
      refine JL_dt rfl (det_loadKA rfl Try.isAgg26 Try.sizeOf26 rfl rfl) ?_
      refine JL_step rfl rfl rfl (jo_call rfl rfl Try.call20 rfl (Machine_j m a (by omega) (by omega) (by omega))) fun x16 => ?_
      -- stop: op  2 t17 := (call (Call (value f21) (t16) (34)))   <1 1>   71
      refine JL_step rfl rfl rfl (jo_call rfl rfl Try.call21 rfl (hst x16 he)) fun ⟨la, lc⟩ => ?_
      refine JL_pd rfl (det_move rfl) ?_
      refine JL_pd rfl (det_extract rfl rfl) ?_
      refine JL_pd rfl (det_extract rfl rfl) ?_
      refine JL_pd rfl (det_assign rfl) ?_
      refine JL_pd rfl (det_assign rfl) ?_
      refine JL_nil ?_
      refine JE_seq ?_
      refine JC_seq ?_
      refine JC_region ?_
      refine JL_dt rfl (det_loadKA rfl Try.isAgg26 Try.sizeOf26 rfl rfl) ?_
      refine JL_step rfl rfl rfl (jo_callv rfl rfl Try.call22 rfl (fault_jl m a)) fun _ => ?_
      refine JL_pd rfl (det_assign rfl) ?_
      refine JL_nil ?_
      refine JE_seq ?_
      refine JC_seq ?_
      refine JC_seq ?_
      refine JC_region ?_
      refine JL_pd rfl (det_move rfl) ?_
      refine JL_pd rfl (det_move rfl) ?_
      refine JL_pd rfl (det_neq rfl rfl) ?_
      refine JL_nil ?_
      refine JE_seq ?_
      -- stop: cond
      refine JC_ifn rfl (fun h2 => ?_) (fun h2 => ?_)
      · exact absurd rfl h2
      · refine JC_skip ?_
        refine JE_seq ?_
        refine JC_seq ?_
        refine JC_seq ?_
        refine JC_region ?_
        refine JL_pd rfl (det_move rfl) ?_
        refine JL_pd rfl (det_neq rfl rfl) ?_
        refine JL_nil ?_
        refine JE_seq ?_
        -- stop: cond
        refine JC_ifn rfl (fun h3 => ?_) (fun h3 => ?_)
        · exact absurd he h3
        · refine JC_skip ?_
          refine JE_seq ?_
          refine JC_seq ?_
          refine JC_region ?_
          refine JL_pd rfl (det_move rfl) ?_
          refine JL_pd rfl (det_eql rfl rfl) ?_
          refine JL_pd rfl (det_move rfl) ?_
          -- stop: guard 2
          refine JL_is (d0 := 40) true rfl (by simp) (fun h1 => ?_)
          refine JL_guard rfl rfl h1 ?_
          refine JL_pd rfl (det_move rfl) ?_
          refine JL_guard rfl rfl h1 ?_
          refine JL_dt rfl (det_loadKA rfl Try.isAgg26 Try.sizeOf26 rfl rfl) ?_
          refine JL_guard rfl rfl h1 ?_
          refine JL_pd rfl (det_fieldAddr rfl fo_26_3) ?_
          refine JL_guard rfl rfl h1 ?_
          refine JL_dt rfl (det_loadK rfl Try.isAgg24 rfl) ?_
          refine JL_guard rfl rfl h1 ?_
          refine JL_step rfl rfl rfl (jo_callv rfl rfl Try.call25 rfl (hre)) fun _ => ?_
          refine JL_guard rfl rfl h1 ?_
          refine JL_step rfl rfl rfl (jo_call rfl rfl Try.call24 rfl (hrs)) fun x46 => ?_
          refine JL_guard rfl rfl h1 ?_
          refine JL_step rfl rfl rfl (jo_callv rfl rfl Try.call23 rfl (hss _ _ _ _)) fun _ => ?_
          refine JL_pd rfl (det_pick_t rfl h1 rfl) ?_
          refine JL_pd rfl (det_move rfl) ?_
          refine JL_is (d0 := 49) true rfl (by simp) (fun h2 => ?_)
          refine JL_guard rfl rfl h2 ?_
          refine JL_step rfl rfl rfl (jo_callv rfl rfl Try.call18 rfl (wakes_j)) fun _ => ?_
          refine JL_pd rfl (det_pick_t rfl h2 rfl) ?_
          refine JL_pd rfl (det_assign rfl) ?_
          refine JL_nil ?_
          refine JE_seq ?_
          refine JC_ret ?_
          refine JE_out (.inl rfl) () (results1 Try.results3 (res_tmp rfl)) ?_ (List.Perm.refl _) (fun _ _ => trivial)
          simp
    · refine JC_skip ?_
      refine JE_seq ?_
      refine JC_seq ?_
      refine JC_region ?_
      refine JL_dt rfl (det_loadKA rfl Try.isAgg26 Try.sizeOf26 rfl rfl) ?_
      refine JL_step rfl rfl rfl (jo_call rfl rfl Try.call20 rfl (Machine_j m a (by omega) (by omega) (by omega))) fun x12 => ?_
      -- stop: op  2 t13 := (call (Call (value f19) (t12) (34)))   <1 1>   70
      refine JL_step rfl rfl rfl (jo_callv rfl rfl Try.call19 rfl (CheckMachine_j m x12)) fun _ => ?_
      refine JL_pd rfl (det_assign rfl) ?_
      refine JL_nil ?_
      refine JE_seq ?_
      refine JC_seq ?_
      refine JC_region ?_
      refine JL_dt rfl (det_loadKA rfl Try.isAgg26 Try.sizeOf26 rfl rfl) ?_
      refine JL_step rfl rfl rfl (jo_call rfl rfl Try.call20 rfl (Machine_j m a (by omega) (by omega) (by omega))) fun x16 => ?_
      -- stop: op  2 t17 := (call (Call (value f21) (t16) (34)))   <1 1>   71
      refine JL_step rfl rfl rfl (jo_callv rfl rfl Try.call21 rfl (Stands_je m x16 he)) fun _ => ?_
      refine JL_pd rfl (det_move rfl) ?_
      refine JL_pd rfl (det_extract rfl rfl) ?_
      refine JL_pd rfl (det_extract rfl rfl) ?_
      refine JL_pd rfl (det_assign rfl) ?_
      refine JL_pd rfl (det_assign rfl) ?_
      refine JL_nil ?_
      refine JE_seq ?_
      refine JC_seq ?_
      refine JC_region ?_
      refine JL_dt rfl (det_loadKA rfl Try.isAgg26 Try.sizeOf26 rfl rfl) ?_
      refine JL_step rfl rfl rfl (jo_callv rfl rfl Try.call22 rfl (fault_jl m a)) fun _ => ?_
      refine JL_pd rfl (det_assign rfl) ?_
      refine JL_nil ?_
      refine JE_seq ?_
      refine JC_seq ?_
      refine JC_seq ?_
      refine JC_region ?_
      refine JL_pd rfl (det_move rfl) ?_
      refine JL_pd rfl (det_move rfl) ?_
      refine JL_pd rfl (det_neq rfl rfl) ?_
      refine JL_nil ?_
      refine JE_seq ?_
      -- stop: cond
      refine JC_ifn rfl (fun h2 => ?_) (fun h2 => ?_)
      · exact absurd rfl h2
      · refine JC_skip ?_
        refine JE_seq ?_
        refine JC_seq ?_
        refine JC_seq ?_
        refine JC_region ?_
        refine JL_pd rfl (det_move rfl) ?_
        refine JL_pd rfl (det_neq rfl rfl) ?_
        refine JL_nil ?_
        refine JE_seq ?_
        -- stop: cond
        refine JC_ifn rfl (fun h3 => ?_) (fun h3 => ?_)
        · refine JC_seq ?_
          refine JC_region ?_
          refine JL_pd rfl (det_move rfl) ?_
          refine JL_pd rfl (det_move rfl) ?_
          refine JL_pd rfl (det_eql rfl rfl) ?_
          refine JL_pd rfl (det_move rfl) ?_
          -- stop: guard 3
          refine JL_is (d0 := 30) true rfl (by simp) (fun h3 => ?_)
          refine JL_guard rfl rfl h3 ?_
          refine JL_pd rfl (det_move rfl) ?_
          refine JL_guard rfl rfl h3 ?_
          refine JL_pd rfl (det_len rfl Try.runUnderlying36) ?_
          refine JL_guard rfl rfl h3 ?_
          refine JL_pd rfl (det_eql rfl rfl) ?_
          refine JL_pd rfl (det_pick_t rfl h3 rfl) ?_
          refine JL_pd rfl (det_move rfl) ?_
          refine JL_is (d0 := 35) true rfl (by simp) (fun h4 => ?_)
          refine JL_guard rfl rfl h4 ?_
          refine JL_step rfl rfl rfl (jo_callv rfl rfl Try.call18 rfl (wakes_j)) fun _ => ?_
          refine JL_pd rfl (det_pick_t rfl h4 rfl) ?_
          refine JL_pd rfl (det_assign rfl) ?_
          refine JL_nil ?_
          refine JE_seq ?_
          refine JC_ret ?_
          refine JE_seq_ret ?_
          refine JE_out (.inl rfl) () (results1 Try.results3 (res_tmp rfl)) ?_ (List.Perm.refl _) (fun _ _ => trivial)
          rfl
        · exact absurd h3 he
end Go.Proofs.Ytgbfjcgjcnndpaa

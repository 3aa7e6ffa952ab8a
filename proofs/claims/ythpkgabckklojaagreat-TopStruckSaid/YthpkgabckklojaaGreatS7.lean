/- Own texts, laid together: K8 K9 KA. Nothing is asked. -/
import Derived.Test.YthpkgabckklojaaGreatS6
set_option linter.unusedSimpArgs false
set_option linter.unusedVariables false
/- Rack: pins that fall by links; a ball over boards. -/
namespace Go.Proofs.YthpkgabckklojaaGreat.Rk
open Go.RowKit Go.Shelf

/-- Which pins fall, if some are reached. -/
inductive Fl (ls : List Lk) (S s0 : BS) (cf : Nat → Lk → Bool) : Nat → Prop
  | base {i : Nat} : s0.getLsbD i = true → Fl ls S s0 cf i
  | step {k : Nat} {l : Lk} : ls[k]? = some l → Fl ls S s0 cf l.f.toNat → S.getLsbD l.t.toNat = true → cf k l = true → Fl ls S s0 cf l.t.toNat
def IsFl (ls : List Lk) (S s0 : BS) (cf : Nat → Lk → Bool) (R : BS) : Prop := ∀ i, i < 16 → (R.getLsbD i = true ↔ Fl ls S s0 cf i)
theorem Fl.mono {ls : List Lk} {S s0 s1 : BS} {cf cg : Nat → Lk → Bool} (h1 : ∀ i, s0.getLsbD i = true → s1.getLsbD i = true) (h2 : ∀ k l, ls[k]? = some l → cf k l = true → cg k l = true) {i : Nat} (h : Fl ls S s0 cf i) : Fl ls S s1 cg i := by
  induction h with
  | base h => exact .base (h1 _ h)
  | step a _ c d ih => exact .step a ih c (h2 _ _ a d)
theorem Fl.split {ls : List Lk} {S s0 s1 : BS} {cf : Nat → Lk → Bool} {i : Nat} (h : Fl ls S (s0 ||| s1) cf i) : Fl ls S s0 cf i ∨ Fl ls S s1 cf i := by
  induction h with
  | base h =>
    rw [BitVec.getLsbD_or, Bool.or_eq_true] at h
    exact h.imp .base .base
  | step a _ c d ih => exact ih.imp (fun e => .step a e c d) (fun e => .step a e c d)
theorem Fl.none {ls : List Lk} {S : BS} {cf : Nat → Lk → Bool} {i : Nat} (h : Fl ls S 0#16 cf i) : False := by
  induction h with
  | base h => simp at h
  | step _ _ _ _ ih => exact ih
theorem fl_of {ls : List Lk} {S s0 cf} {R : BS} (h1 : ∀ i, s0.getLsbD i = true → R.getLsbD i = true) (h2 : ∀ i, i < 16 → R.getLsbD i = true → Fl ls S s0 cf i) (h3 : ∀ k l, ls[k]? = some l → R.getLsbD l.f.toNat = true → S.getLsbD l.t.toNat = true → cf k l = true → R.getLsbD l.t.toNat = true) : IsFl ls S s0 cf R := fun i hi => by
  refine ⟨h2 i hi, fun h => ?_⟩
  clear hi
  induction h with
  | base h => exact h1 _ h
  | step a _ c d ih => exact h3 _ _ a ih c d
theorem IsFl.uniq {ls : List Lk} {S s0 cf} {R R' : BS} (h : IsFl ls S s0 cf R) (h' : IsFl ls S s0 cf R') : R = R' := bs_ext fun i hi => by
  rw [Bool.eq_iff_iff, h i hi, h' i hi]
abbrev vLk (l : Lk) : Value := .agg #[I l.f, I l.t, .bool l.s]
theorem surely_j (l : Lk) (k bits : Int) : Cv Tryz.prog 64 [vLk l, I k, I bits] KTrue (.bool l.s) := by
  refine Cx_of Tryz.func64 rfl Tryz.ntmps64 rfl fun w0 M0 => ?_
  refine JC_seq ?_
  refine JC_region ?_
  refine JL_step rfl rfl rfl (jo_box rfl rfl) fun b3 => ?_
  refine JL_pd rfl (det_assign rfl) ?_
  refine JL_nil ?_
  refine JE_seq ?_
  refine JC_seq ?_
  refine JC_region ?_
  refine JL_pd rfl (det_fieldAddr rfl fo_141_2) ?_
  refine JL_dt rfl (det_loadK rfl Tryz.isAgg4 rfl) ?_
  refine JL_pd rfl (det_assign rfl) ?_
  refine JL_nil ?_
  refine JE_seq ?_
  refine JC_ret ?_
  -- stop: out
  refine JE_out (.inl rfl) () (results1 Tryz.results64 (res_tmp rfl)) rfl (List.Perm.refl _) (fun _ _ => trivial)
theorem maybe_j (l : Lk) (k bits : Int) : Cv Tryz.prog 65 [vLk l, I k, I bits] KTrue (.bool true) := by
  refine Cx_of Tryz.func65 rfl Tryz.ntmps65 rfl fun w0 M0 => ?_
  refine JC_seq ?_
  refine JC_region ?_
  refine JL_step rfl rfl rfl (jo_box rfl rfl) fun b3 => ?_
  refine JL_pd rfl (det_assign rfl) ?_
  refine JL_nil ?_
  refine JE_seq ?_
  refine JC_seq ?_
  refine JC_region ?_
  refine JL_pd rfl (det_assign rfl) ?_
  refine JL_nil ?_
  refine JE_seq ?_
  refine JC_ret ?_
  -- stop: out
  refine JE_out (.inl rfl) () (results1 Tryz.results65 (res_tmp rfl)) rfl (List.Perm.refl _) (fun _ _ => trivial)
def someC (bits : Nat) (k : Nat) (l : Lk) : Bool := l.s || bits.testBit k
theorem bit64 (bits k : Nat) (hk : k < 64) (hb : bits < 65536) : (bits : Int).fdiv (2 ^ min (k : Int).toNat 64) = ((bits / 2 ^ k : Nat) : Int) ∧ IntKind.i64.wrap ((BitVec.ofInt 64 ((bits / 2 ^ k : Nat) : Int) &&& BitVec.ofInt 64 1).toNat : Int) = ((bits / 2 ^ k % 2 : Nat) : Int) ∧ decide (((bits / 2 ^ k % 2 : Nat) : Int) = 1) = bits.testBit k := by
  have hm : min (k : Int).toNat 64 = k := by rw [Int.toNat_natCast]; omega
  refine ⟨by rw [hm]; exact fdiv_pow _ _, by rw [and_one64]; exact i64_wrap ⟨by omega, by omega⟩, ?_⟩
  rw [Nat.testBit_eq_decide_div_mod_eq]
  exact decide_eq_decide.2 (by omega)
theorem some_j (l : Lk) (k bits : Nat) (hk : k < 64) (hb : bits < 65536) : Cv Tryz.prog 60 [vLk l, I k, I bits] KTrue (.bool (someC bits k l)) := by
  obtain ⟨e1, e2, e3⟩ := bit64 bits k hk hb
  refine Cx_of Tryz.func60 rfl Tryz.ntmps60 rfl fun w0 M0 => ?_
  refine JC_seq ?_
  refine JC_region ?_
  refine JL_step rfl rfl rfl (jo_box rfl rfl) fun b3 => ?_
  refine JL_pd rfl (det_assign rfl) ?_
  refine JL_nil ?_
  refine JE_seq ?_
  refine JC_seq ?_
  refine JC_region ?_
  refine JL_pd rfl (det_fieldAddr rfl fo_141_2) ?_
  refine JL_dt rfl (det_loadK rfl Tryz.isAgg4 rfl) ?_
  refine JL_pd rfl (det_move rfl) ?_
  -- stop: guard 2
  refine JL_join1 7 6 (.bool (someC bits k l)) (fun hj => ?_) ?_
  · refine JL_split (d0 := 9) rfl (fun q1 => ?_) (fun q1 => ?_)
    · refine JL_skip rfl rfl q1 rfl ?_
      refine JL_skip rfl rfl q1 rfl ?_
      refine JL_skip rfl rfl q1 rfl ?_
      refine JL_skip rfl rfl q1 rfl ?_
      refine JL_skip rfl rfl q1 rfl ?_
      refine JL_pd rfl (det_pick_t rfl q1 rfl) ?_
      refine JL_pd rfl (det_assign rfl) ?_
      exact hj (by kernel_rfl) (stsub_consB rfl (by clear hj; first | rfl | (simp only [someC, e3, q1, Bool.and_true, Bool.true_and, Bool.false_and, Bool.and_false, Bool.or_true, Bool.true_or, Bool.or_false, Bool.false_or, Bool.not_true, Bool.not_false]; done) | (simp [someC, e3, q1]; done) | (simp [someC, e3] at q1; done) | (simp [someC, e3, q1] <;> omega) | (exfalso; simp [someC, e3] at q1; omega)) stsub_nil)
    · refine JL_guard rfl rfl q1 ?_
      refine JL_pd rfl (det_move rfl) ?_
      refine JL_guard rfl rfl q1 ?_
      refine JL_pd rfl (det_move rfl) ?_
      refine JL_guard rfl rfl q1 ?_
      refine JL_pd rfl (det_shrR _ rfl rfl (by omega) e1) ?_
      refine JL_guard rfl rfl q1 ?_
      refine JL_pd rfl (det_andR _ rfl rfl e2) ?_
      refine JL_guard rfl rfl q1 ?_
      refine JL_pd rfl (det_eql rfl rfl) ?_
      refine JL_pd rfl (det_pick_f rfl q1 rfl) ?_
      refine JL_pd rfl (det_assign rfl) ?_
      exact hj (by kernel_rfl) (stsub_consB rfl (by clear hj; first | rfl | (simp only [someC, e3, q1, Bool.and_true, Bool.true_and, Bool.false_and, Bool.and_false, Bool.or_true, Bool.true_or, Bool.or_false, Bool.false_or, Bool.not_true, Bool.not_false]; done) | (simp [someC, e3, q1]; done) | (simp [someC, e3] at q1; done) | (simp [someC, e3, q1] <;> omega) | (exfalso; simp [someC, e3] at q1; omega)) stsub_nil)
  refine JL_nil ?_
  refine JE_seq ?_
  refine JC_ret ?_
  -- stop: out
  refine JE_out (.inl rfl) () (results1 Tryz.results60 (res_tmp rfl)) rfl (List.Perm.refl _) (fun _ _ => trivial)
theorem has_i (s : BS) (x : Int) (h : 0 ≤ x ∧ x ≤ 9) : Cv Tryz.prog 106 [bv s, I x] KTrue (.bool (s.getLsbD x.toNat)) := by
  have hj := has_j s x.toNat (by omega)
  rwa [show ((x.toNat : Nat) : Int) = x by omega] at hj
theorem VR.link {r : Rk} (V : VR r) {l : Lk} (h : l ∈ r.ls) : (0 ≤ l.f ∧ l.f ≤ 9) ∧ (0 ≤ l.t ∧ l.t ≤ 9) := by
  have h1 := V.l l h
  have h2 := (pins_of V.r0 V.r1).2.2
  unfold lkOk at h1
  simp only [Bool.and_eq_true, inI_iff] at h1
  omega
theorem rec_step {ls : List Lk} {S sb s s2 : BS} {cf : Nat → Lk → Bool} {i : Nat} {l : Lk} (hge : ls[i]? = some l) (h3 : ∀ k l, k < i → ls[k]? = some l → sb.getLsbD l.f.toNat = true → S.getLsbD l.t.toNat = true → cf k l = true → s.getLsbD l.t.toNat = true) (hm : ∀ j, s.getLsbD j = true → s2.getLsbD j = true) (hnew : sb.getLsbD l.f.toNat = true → S.getLsbD l.t.toNat = true → cf i l = true → s2.getLsbD l.t.toNat = true) :
    ∀ k l, k < i + 1 → ls[k]? = some l → sb.getLsbD l.f.toNat = true → S.getLsbD l.t.toNat = true → cf k l = true → s2.getLsbD l.t.toNat = true := fun k l' hk hl h1 h2 h4 => by
  by_cases e : k = i
  · subst e
    rw [hge] at hl
    cases hl
    exact hnew h1 h2 h4
  · exact hm _ (h3 k l' (by omega) hl h1 h2 h4)
theorem or_has {s : BS} {i j : Nat} (hi : i < 16) : (s ||| BitVec.twoPow 16 i).getLsbD j = true ↔ s.getLsbD j = true ∨ j = i := by
  rw [BitVec.getLsbD_or, has_one hi, Bool.or_eq_true, decide_eq_true_eq]
set_option maxRecDepth 100000 in
set_option maxHeartbeats 2000000 in
theorem falls_j (r : Rk) (a : Option Addr) (c : Nat) (S : BS) (V : VR r) (F : Nat) (eF : ∀ args w, (callFunc F args).run Tryz.prog w = .ok (.enter F args) w) (bits : Int) (cf : Nat → Lk → Bool) (hF : ∀ (k : Nat) (l : Lk), k < 64 → Cv Tryz.prog F [vLk l, I k, I bits] KTrue (.bool (cf k l))) (s0 : BS) :
    Cr Tryz.prog 63 [vHt r a c S, bv s0, .agg #[.func (.func F) #[] #[]], I bits] (KRk r a c) (fun q : {R : BS // IsFl r.ls S s0 cf R} => bv q.1) (fun _ => KTrue) := by
  have hn := V.n
  refine Cx_of Tryz.func63 rfl Tryz.ntmps63 rfl fun w0 M0 => ?_
  refine JC_seq ?_
  refine JC_region ?_
  refine JL_step rfl rfl rfl (jo_box rfl rfl) fun b4 => ?_
  refine JL_step rfl rfl rfl (jo_box rfl rfl) fun b6 => ?_
  refine JL_pd rfl (det_assign rfl) ?_
  refine JL_nil ?_
  refine JE_seq ?_
  refine JC_block ?_
  -- stop: loop
  refine JC_loopF (γ := BS) (fun s => (∀ i, s0.getLsbD i = true → s.getLsbD i = true) ∧ ∀ i, i < 16 → s.getLsbD i = true → Fl r.ls S s0 cf i) (fun s => [(1, bv s)]) (fun _ => []) (fun s => cntN s) s0 ⟨fun _ h => h, fun _ _ h => .base h⟩ (stsub_cons rfl stsub_nil) ht_nil ?_
  rintro sb ⟨hb1, hb2⟩ K hK
  dsimp only [List.cons_append, List.nil_append]
  refine JC_block ?_
  refine JC_seq ?_
  refine JC_region ?_
  refine JL_pd rfl (det_move rfl) ?_
  refine JL_pd rfl (det_assign rfl) ?_
  refine JL_nil ?_
  refine JE_seq ?_
  refine JC_seq ?_
  refine JC_seq ?_
  refine JC_region ?_
  refine JL_pd rfl (det_fieldAddr rfl fo_136_0) ?_
  refine JL_pd rfl (det_fieldAddr rfl fo_65_4) ?_
  refine JL_dt rfl (det_loadK rfl Tryz.isAgg63 rfl) ?_
  refine JL_pd rfl (det_len rfl Tryz.runUnderlying63) ?_
  refine JL_pd rfl (det_move rfl) ?_
  refine JL_nil ?_
  refine JE_seq ?_
  refine JC_block ?_
  -- stop: loop
  -- stop: loop
  refine JC_loopF (γ := Nat × BS) (fun q => q.1 ≤ r.ls.length ∧ (∀ i, sb.getLsbD i = true → q.2.getLsbD i = true) ∧ (∀ i, i < 16 → q.2.getLsbD i = true → Fl r.ls S s0 cf i) ∧ ∀ k l, k < q.1 → r.ls[k]? = some l → sb.getLsbD l.f.toNat = true → S.getLsbD l.t.toNat = true → cf k l = true → q.2.getLsbD l.t.toNat = true) (fun q => [(17, I q.1), (1, bv q.2)]) (fun _ => []) (fun q => r.ls.length - q.1) (0, sb) ⟨Nat.zero_le _, fun _ h => h, hb2, fun k l hk => absurd hk (Nat.not_lt_zero k)⟩ (stsub_consI rfl rfl (stsub_cons rfl stsub_nil)) ht_nil ?_
  rintro ⟨i, s⟩ ⟨hi, hs1, hs2, hs3⟩ K2 hK2
  dsimp only [List.cons_append, List.nil_append] at hi hs1 hs2 hs3 ⊢
  refine JC_seq ?_
  refine JC_region ?_
  refine JL_pd rfl (det_lss rfl rfl) ?_
  refine JL_nil ?_
  refine JE_seq ?_
  refine JC_seq ?_
  -- stop: cond
  refine JC_if rfl (fun h1 => ?_) (fun h1 => ?_)
  · have hi2 : i < r.ls.length := by omega
    obtain ⟨hlf, hlt⟩ := V.link (List.getElem_mem hi2)
    have hge : r.ls[i]? = some r.ls[i] := List.getElem?_eq_getElem hi2
    refine JC_skip ?_
    refine JE_seq ?_
    refine JC_seq ?_
    refine JC_block ?_
    refine JC_seq ?_
    refine JC_region ?_
    refine JL_pd rfl (det_move rfl) ?_
    refine JL_dt rfl (det_indexAddr rfl rfl (by first | rfl | omega) (by first | assumption | omega | decide) Tryz.runUnderlying63 Tryz.sizeOf141) ?_
    refine JL_dt rfl (det_loadEA rfl (by first | assumption | omega | decide) Tryz.isAgg141 Tryz.sizeOf141 rfl rfl rfl) ?_
    refine JL_step rfl rfl rfl (jo_alloc0 Tryz.zeroValue141 rfl) fun b11 => ?_
    refine JL_pd rfl (det_assign rfl) ?_
    refine JL_step0 rfl rfl (jo_store rfl rfl rfl (by first | (simp only [splice_norm]; done) | (simp only [splice_norm]; rfl) | rfl) Tryz.sizeOf141 rfl rfl) fun _ => ?_
    refine JL_nil ?_
    refine JE_seq ?_
    refine JC_seq ?_
    refine JC_region ?_
    refine JL_pd rfl (det_move rfl) ?_
    refine JL_pd rfl (det_fieldAddr rfl fo_141_0) ?_
    refine JL_dt rfl (det_loadK rfl Tryz.isAgg3 rfl) ?_
    refine JL_step rfl rfl rfl (jo_callv rfl rfl Tryz.call106 rfl (has_i _ _ (by first | exact hlf | exact hlt))) fun _ => ?_
    refine JL_pd rfl (det_move rfl) ?_
    -- stop: guard 4
    refine JL_split (d0 := 26) rfl (fun g2 => ?_) (fun g2 => ?_)
    · refine JL_guard rfl rfl g2 ?_
      refine JL_pd rfl (det_fieldAddr rfl fo_136_1) ?_
      refine JL_guard rfl rfl g2 ?_
      refine JL_dt rfl (det_loadK rfl Tryz.isAgg134 rfl) ?_
      refine JL_guard rfl rfl g2 ?_
      refine JL_pd rfl (det_fieldAddr rfl fo_141_1) ?_
      refine JL_guard rfl rfl g2 ?_
      refine JL_dt rfl (det_loadK rfl Tryz.isAgg3 rfl) ?_
      refine JL_guard rfl rfl g2 ?_
      refine JL_step rfl rfl rfl (jo_callv rfl rfl Tryz.call106 rfl (has_i _ _ (by first | exact hlf | exact hlt))) fun _ => ?_
      refine JL_pd rfl (det_pick_t rfl g2 rfl) ?_
      refine JL_pd rfl (det_move rfl) ?_
      -- stop: guard 11
      refine JL_split (d0 := 33) rfl (fun g3 => ?_) (fun g3 => ?_)
      · refine JL_guard rfl rfl g3 ?_
        refine JL_pd rfl (det_fieldAddr rfl fo_146_0) ?_
        refine JL_guard rfl rfl g3 ?_
        refine JL_dt rfl (det_loadK rfl Tryz.isAgg143 rfl) ?_
        refine JL_guard rfl rfl g3 ?_
        refine JL_dt rfl (det_loadKA rfl Tryz.isAgg141 Tryz.sizeOf141 rfl rfl) ?_
        refine JL_guard rfl rfl g3 ?_
        refine JL_pd rfl (det_move rfl) ?_
        refine JL_guard rfl rfl g3 ?_
        refine JL_pd rfl (det_move rfl) ?_
        refine JL_guard rfl rfl g3 ?_
        -- stop: op 17 t39 := (call (Call (value t35) (t36 t37 t38) (141 3 3)))   <13 14 15 16 11 11>   47
        refine JL_step rfl rfl rfl (jo_callv rfl rfl eF rfl (hF i r.ls[i] (by omega))) fun _ => ?_
        refine JL_pd rfl (det_pick_t rfl g3 rfl) ?_
        refine JL_nil ?_
        refine JE_seq ?_
        -- stop: cond
        refine JC_cond rfl (fun g4 => ?_) (fun g4 => ?_)
        · have hfl : Fl r.ls S s0 cf r.ls[i].t.toNat := .step hge (hs2 _ (by omega) g2) g3 g4
          have ht16 : r.ls[i].t.toNat < 16 := by omega
          refine JC_region ?_
          refine JL_pd rfl (det_move rfl) ?_
          refine JL_pd rfl (det_fieldAddr rfl fo_141_1) ?_
          refine JL_dt rfl (det_loadK rfl Tryz.isAgg3 rfl) ?_
          refine JL_pd rfl (det_shlS r.ls[i].t.toNat rfl rfl (by omega) (by omega)) ?_
          refine JL_pd rfl (det_orS _ _ rfl rfl) ?_
          refine JL_pd rfl (det_assign rfl) ?_
          refine JL_nil ?_
          refine JE_block ?_
          refine JE_seq ?_
          refine JC_region ?_
          refine JL_pd rfl (det_add rfl rfl ⟨by omega, by omega⟩) ?_
          refine JL_pd rfl (det_move rfl) ?_
          refine JL_nil ?_
          -- stop: end
          refine JE_roundF hK2 (i + 1, s ||| BitVec.twoPow 16 r.ls[i].t.toNat) ⟨by simp only; omega, fun j h => (or_has ht16).2 (.inl (hs1 j h)), fun j hj h => ?_, rec_step hge hs3 (fun j h => (or_has ht16).2 (.inl h)) fun _ _ _ => (or_has ht16).2 (.inr rfl)⟩ (by simp only; omega) (stsub_consI rfl (by simp only; omega) (stsub_cons rfl stsub_nil)) ht_nil
          rcases (or_has ht16).1 h with h | rfl
          · exact hs2 j hj h
          · exact hfl
        · refine JC_skip ?_
          refine JE_block ?_
          refine JE_seq ?_
          refine JC_region ?_
          refine JL_pd rfl (det_add rfl rfl ⟨by omega, by omega⟩) ?_
          refine JL_pd rfl (det_move rfl) ?_
          refine JL_nil ?_
          -- stop: end
          refine JE_roundF hK2 (i + 1, s) ⟨by simp only; omega, hs1, hs2, rec_step hge hs3 (fun _ h => h) fun q1 q2 q3 => ?_⟩ (by simp only; omega) (stsub_consI rfl (by simp only; omega) (stsub_cons rfl stsub_nil)) ht_nil
          rw [q3] at g4; cases g4
      · refine JL_skip rfl rfl g3 rfl ?_
        refine JL_skip rfl rfl g3 rfl ?_
        refine JL_skip rfl rfl g3 rfl ?_
        refine JL_skip rfl rfl g3 rfl ?_
        refine JL_skip rfl rfl g3 rfl ?_
        refine JL_skip rfl rfl g3 rfl ?_
        refine JL_pd rfl (det_pick_f rfl g3 rfl) ?_
        refine JL_nil ?_
        refine JE_seq ?_
        refine JC_condF rfl rfl ?_
        refine JC_skip ?_
        refine JE_block ?_
        refine JE_seq ?_
        refine JC_region ?_
        refine JL_pd rfl (det_add rfl rfl ⟨by omega, by omega⟩) ?_
        refine JL_pd rfl (det_move rfl) ?_
        refine JL_nil ?_
        -- stop: end
        refine JE_roundF hK2 (i + 1, s) ⟨by simp only; omega, hs1, hs2, rec_step hge hs3 (fun _ h => h) fun q1 q2 q3 => ?_⟩ (by simp only; omega) (stsub_consI rfl (by simp only; omega) (stsub_cons rfl stsub_nil)) ht_nil
        rw [q2] at g3; cases g3
    · refine JL_skip rfl rfl g2 rfl ?_
      refine JL_skip rfl rfl g2 rfl ?_
      refine JL_skip rfl rfl g2 rfl ?_
      refine JL_skip rfl rfl g2 rfl ?_
      refine JL_skip rfl rfl g2 rfl ?_
      refine JL_pd rfl (det_pick_f rfl g2 rfl) ?_
      refine JL_pd rfl (det_move rfl) ?_
      refine JL_skip rfl rfl rfl rfl ?_
      refine JL_skip rfl rfl rfl rfl ?_
      refine JL_skip rfl rfl rfl rfl ?_
      refine JL_skip rfl rfl rfl rfl ?_
      refine JL_skip rfl rfl rfl rfl ?_
      refine JL_skip rfl rfl rfl rfl ?_
      refine JL_pd rfl (det_pick_f rfl rfl rfl) ?_
      refine JL_nil ?_
      refine JE_seq ?_
      refine JC_condF rfl rfl ?_
      refine JC_skip ?_
      refine JE_block ?_
      refine JE_seq ?_
      refine JC_region ?_
      refine JL_pd rfl (det_add rfl rfl ⟨by omega, by omega⟩) ?_
      refine JL_pd rfl (det_move rfl) ?_
      refine JL_nil ?_
      -- stop: end
      refine JE_roundF hK2 (i + 1, s) ⟨by simp only; omega, hs1, hs2, rec_step hge hs3 (fun _ h => h) fun q1 q2 q3 => ?_⟩ (by simp only; omega) (stsub_consI rfl (by simp only; omega) (stsub_cons rfl stsub_nil)) ht_nil
      rw [hs1 _ q1] at g2; cases g2
  · obtain rfl : i = r.ls.length := by omega
    refine JC_exit ?_
    refine JE_seq_exit ?_
    refine JE_then_exit ?_
    refine JE_block_here ?_
    refine JE_seq ?_
    refine JC_seq ?_
    refine JC_region ?_
    refine JL_pd rfl (det_move rfl) ?_
    refine JL_pd rfl (det_move rfl) ?_
    refine JL_pd rfl (det_eql rfl rfl) ?_
    refine JL_nil ?_
    refine JE_seq ?_
    -- stop: cond
    refine JC_cond rfl (fun g5 => ?_) (fun g5 => ?_)
    · have e : s = sb := by
        have := of_decide_eq_true g5
        exact BitVec.eq_of_toNat_eq (by omega)
      subst e
      refine JC_seq ?_
      refine JC_region ?_
      refine JL_pd rfl (det_move rfl) ?_
      refine JL_pd rfl (det_assign rfl) ?_
      refine JL_nil ?_
      refine JE_seq ?_
      refine JC_ret ?_
      refine JE_block_ret ?_
      refine JE_then_ret ?_
      refine JE_block_ret ?_
      -- stop: out
      refine JE_out (.inl rfl) ⟨s, fl_of (fun j h => hs1 j (hb1 j h)) hs2 fun k l hk hf ht hc => hs3 k l (List.getElem?_eq_some_iff.1 hk).1 hk hf ht hc⟩ (results1 Tryz.results63 (res_tmp rfl)) rfl (List.Perm.refl _) (fun _ _ => trivial)
    · have e : ¬ s = sb := fun e => by
        have := of_decide_eq_false g5
        rw [e] at this; exact this rfl
      refine JC_skip ?_
      refine JE_block ?_
      -- stop: end
      refine JE_roundF hK s ⟨fun j h => hs1 j (hb1 j h), hs2⟩ (cnt_lt hs1 e) (stsub_cons rfl stsub_nil) ht_nil
end Go.Proofs.YthpkgabckklojaaGreat.Rk

/- Rack: a ball over boards; the boards of a row. -/
namespace Go.Proofs.YthpkgabckklojaaGreat.Rk
open Go.RowKit Go.Shelf

/-- The pins of the first rows that a ball over boards reaches. -/
def tchU (r : Rk) (S : BS) (f : Nat → Int) : Nat → BS
  | 0 => 0#16
  | m + 1 => tchU r S f m ||| tch r S (m : Int) (f m)
def bdC (f : Nat → Int) : List Value := [I (f 0), I (f 1), I (f 2), I (f 3)]
theorem bdC_get (f : Nat → Int) {i : Nat} (h : i < 4) : (bdC f)[0 + i * 1]? = some (I (f i)) := by
  rcases (by omega : i = 0 ∨ i = 1 ∨ i = 2 ∨ i = 3) with rfl | rfl | rfl | rfl <;> rfl
def updF (f : Nat → Int) (i : Nat) (x : Int) : Nat → Int := fun j => if j = i then x else f j
theorem bdC_set (f : Nat → Int) {i : Nat} (h : i < 4) (x : Int) : splice (bdC f) (0 + i * 1) [I x] = bdC (updF f i x) := by
  rcases (by omega : i = 0 ∨ i = 1 ∨ i = 2 ∨ i = 3) with rfl | rfl | rfl | rfl <;> rfl
set_option maxRecDepth 100000 in
set_option maxHeartbeats 1000000 in
theorem felled_j (r : Rk) (a : Option Addr) (c : Nat) (S : BS) (V : VR r) (F : Nat) (eF : ∀ args w, (callFunc F args).run Tryz.prog w = .ok (.enter F args) w) (bits : Int) (cf : Nat → Lk → Bool) (hF : ∀ (k : Nat) (l : Lk), k < 64 → Cv Tryz.prog F [vLk l, I k, I bits] KTrue (.bool (cf k l))) (f : Nat → Int) (hf : ∀ i, i < 4 → -1000 ≤ f i ∧ f i ≤ 1000) :
    Cr Tryz.prog 59 [vHt r a c S, .agg (bdC f).toArray, .agg #[.func (.func F) #[] #[]], I bits] (KRk r a c) (fun q : {R : BS // IsFl r.ls S (tchU r S f r.rows.toNat) cf R} => bv q.1) (fun _ => KTrue) := by
  have r0 := V.r0
  have r1 := V.r1
  refine Cx_of Tryz.func59 rfl Tryz.ntmps59 rfl fun w0 M0 => ?_
  refine JC_seq ?_
  refine JC_region ?_
  refine JL_step rfl rfl rfl (jo_box rfl rfl) fun b4 => ?_
  refine JL_step rfl rfl rfl (jo_box rfl rfl) fun b5 => ?_
  refine JL_step rfl rfl rfl (jo_box rfl rfl) fun b6 => ?_
  refine JL_pd rfl (det_assign rfl) ?_
  refine JL_nil ?_
  refine JE_seq ?_
  refine JC_seq ?_
  refine JC_region ?_
  refine JL_pd rfl (det_assign rfl) ?_
  refine JL_nil ?_
  refine JE_seq ?_
  refine JC_seq ?_
  refine JC_seq ?_
  refine JC_region ?_
  refine JL_pd rfl (det_fieldAddr rfl fo_136_0) ?_
  refine JL_pd rfl (det_fieldAddr rfl fo_65_0) ?_
  refine JL_dt rfl (det_loadK rfl Tryz.isAgg3 rfl) ?_
  refine JL_pd rfl (det_move rfl) ?_
  refine JL_nil ?_
  refine JE_seq ?_
  refine JC_block ?_
  -- stop: loop
  refine JC_loopF (γ := Nat) (fun i => i ≤ r.rows.toNat) (fun i => [(14, I i), (9, bv (tchU r S f i))]) (fun _ => []) (fun i => r.rows.toNat - i) 0 (Nat.zero_le _) (stsub_consI rfl rfl (stsub_cons rfl stsub_nil)) ht_nil ?_
  intro i hi K hK
  dsimp only [List.cons_append, List.nil_append]
  refine JC_seq ?_
  refine JC_region ?_
  refine JL_pd rfl (det_lss rfl rfl) ?_
  refine JL_nil ?_
  refine JE_seq ?_
  refine JC_seq ?_
  -- stop: cond
  refine JC_if rfl (fun h1 => ?_) (fun h1 => ?_)
  · have hi4 : i < 4 := by omega
    refine JC_skip ?_
    refine JE_seq ?_
    refine JC_seq ?_
    refine JC_block ?_
    refine JC_seq ?_
    refine JC_region ?_
    refine JL_pd rfl (det_move rfl) ?_
    refine JL_pd rfl (det_assign rfl) ?_
    refine JL_nil ?_
    refine JE_seq ?_
    refine JC_draw [] (by kernel_rfl) ?_
    refine JA_pd (i := 0) rfl (by kernel_rfl) rfl rfl (det_move rfl) ?_
    refine JA_dt (i := 1) rfl (by kernel_rfl) (by kernel_rfl) rfl rfl (det_loadKA rfl Tryz.isAgg136 Tryz.sizeOf136 rfl rfl) ?_
    refine JA_pd (i := 2) rfl (by kernel_rfl) rfl rfl (det_move rfl) ?_
    refine JA_pd (i := 3) rfl (by kernel_rfl) rfl rfl (det_move rfl) ?_
    refine JA_pd (i := 4) rfl (by kernel_rfl) rfl rfl (det_indexArr (i := i) rfl rfl rfl hi4 Tryz.runUnderlying140 Tryz.sizeOf3) ?_
    refine JA_dt (i := 5) rfl (by kernel_rfl) (by kernel_rfl) rfl rfl (det_loadK rfl Tryz.isAgg3 (bdC_get f hi4)) ?_
    refine JA_one (i := 6) (by kernel_rfl) rfl rfl (jo_callv rfl rfl Tryz.call105 rfl (touched_j r a c S V (i : Int) (f i) (hf i hi4))) (fun _ => ⟨hsub_refl, fun _ h => h⟩) fun _ => ?_
    refine JA_pd (i := 7) rfl (by kernel_rfl) rfl rfl (det_orS _ _ rfl rfl) ?_
    refine JA_pd (i := 8) rfl (by kernel_rfl) rfl rfl (det_assign rfl) ?_
    refine JA_done (by kernel_rfl) ?_
    refine JE_block ?_
    refine JE_seq ?_
    refine JC_region ?_
    refine JL_pd rfl (det_add rfl rfl ⟨by omega, by omega⟩) ?_
    refine JL_pd rfl (det_move rfl) ?_
    refine JL_nil ?_
    -- stop: end
    refine JE_roundF hK (i + 1) (by omega) (by omega) (stsub_consI rfl (by omega) (stsub_cons rfl stsub_nil)) ht_nil
  · obtain rfl : i = r.rows.toNat := by omega
    refine JC_exit ?_
    refine JE_seq_exit ?_
    refine JE_then_exit ?_
    refine JE_block_here ?_
    refine JE_seq ?_
    refine JC_seq ?_
    refine JC_region ?_
    refine JL_dt rfl (det_loadKA rfl Tryz.isAgg136 Tryz.sizeOf136 rfl rfl) ?_
    refine JL_pd rfl (det_move rfl) ?_
    refine JL_dt rfl (det_loadKA rfl Tryz.isAgg146 Tryz.sizeOf146 rfl rfl) ?_
    refine JL_pd rfl (det_move rfl) ?_
    refine JL_step rfl rfl rfl (jo_call rfl rfl Tryz.call63 rfl (falls_j r a c S V F eF bits cf hF (tchU r S f r.rows.toNat))) fun x30 => ?_
    refine JL_pd rfl (det_assign rfl) ?_
    refine JL_nil ?_
    refine JE_seq ?_
    refine JC_ret ?_
    -- stop: out
    refine JE_out (.inl rfl) x30 (results1 Tryz.results59 (res_tmp rfl)) rfl (List.Perm.refl _) (fun _ _ => trivial)
/-- The boards of a row, from the least on. -/
def bdL (b : Rg) : List Int := (List.range (b.hi + 1 - b.lo).toNat).map fun i : Nat => b.lo + (i : Int)
theorem bdL_mem {b : Rg} {n : Int} : n ∈ bdL b ↔ b.lo ≤ n ∧ n ≤ b.hi := by
  unfold bdL
  rw [List.mem_map]
  constructor
  · rintro ⟨i, hi, rfl⟩
    have := List.mem_range.1 hi
    omega
  · intro h
    exact ⟨(n - b.lo).toNat, List.mem_range.2 (by omega), by omega⟩
theorem bdL_get (b : Rg) (i : Nat) (h : i < (b.hi + 1 - b.lo).toNat) : (bdL b).take (i + 1) = (bdL b).take i ++ [b.lo + (i : Int)] := by
  have hl : i < (bdL b).length := by rw [bdL, List.length_map, List.length_range]; exact h
  rw [List.take_succ_eq_append_getElem hl]
  congr 1
  simp [bdL]
theorem bdL_all (b : Rg) {i : Nat} (h : (b.hi + 1 - b.lo).toNat ≤ i) : (bdL b).take i = bdL b := List.take_of_length_le (by rw [bdL, List.length_map, List.length_range]; exact h)
abbrev encTc (r : Rk) (S : BS) (row : Int) (n : Int) : List Value := [bv (tch r S row n)]
abbrev KEa (r : Rk) (a : Option Addr) (c : Nat) (S : BS) (row : Int) (b : Rg) (q : Nat × Nat × Nat) : World → Prop := KAnd (KBox q.1 [I b.lo, I b.hi]) (KAnd (KBox q.2.1 (cHt r a c S)) (KBox q.2.2 [I row]))
theorem each_j (r : Rk) (a : Option Addr) (c : Nat) (S : BS) (row : Int) (b : Rg) : Cr Tryz.prog 62 [vHt r a c S, I row, .agg #[I b.lo, I b.hi]] KTrue (fun q : Nat × Nat × Nat => .func (.func 107) #[] #[.pointer (some ⟨q.1, 0, none⟩), .pointer (some ⟨q.2.1, 0, none⟩), .pointer (some ⟨q.2.2, 0, none⟩)]) (fun q => KEa r a c S row b q) := by
  refine Cx_of Tryz.func62 rfl Tryz.ntmps62 rfl fun w0 M0 => ?_
  refine JC_seq ?_
  refine JC_region ?_
  refine JL_step rfl rfl rfl (jo_box rfl rfl) fun b3 => ?_
  refine JL_step rfl rfl rfl (jo_box rfl rfl) fun b4 => ?_
  refine JL_step rfl rfl rfl (jo_box rfl rfl) fun b5 => ?_
  refine JL_pd rfl (det_assign rfl) ?_
  refine JL_nil ?_
  refine JE_seq ?_
  refine JC_seq ?_
  refine JC_region ?_
  refine JL_pd rfl (det_makeFuncE rfl rfl) ?_
  refine JL_pd rfl (det_assign rfl) ?_
  refine JL_nil ?_
  refine JE_seq ?_
  refine JC_ret ?_
  -- stop: out
  refine JE_keep b3 noFp (JE_keep b4 noFp (JE_keep b5 noFp ?_))
  refine JE_out (.inl rfl) (b5, b3, b4) (results1 Tryz.results62 (res_tmp rfl)) rfl (List.Perm.refl _) (fun w h => ⟨h.1, h.2.2.1, h.2.1⟩)
set_option maxRecDepth 100000 in
theorem each_it (r : Rk) (a : Option Addr) (c : Nat) (S : BS) (V : VR r) (row : Int) (b : Rg) (hb : bOk b = true) (q : Nat × Nat × Nat) : Iter Tryz.prog 107 [.pointer (some ⟨q.1, 0, none⟩), .pointer (some ⟨q.2.1, 0, none⟩), .pointer (some ⟨q.2.2, 0, none⟩)] (encTc r S row) (KEa r a c S row b q) (bdL b) := by
  intro l Rel J Jx ch hJ hy
  have hb2 := bOk_iff.1 hb
  refine Cx_of Tryz.func107 rfl Tryz.ntmps107 rfl fun w0 M0 => ?_
  refine JC_seq ?_
  refine JC_region ?_
  refine JL_pd rfl (det_fieldAddr rfl fo_71_0) ?_
  refine JL_dt rfl (det_loadK rfl Tryz.isAgg3 rfl) ?_
  refine JL_pd rfl (det_assign rfl) ?_
  refine JL_nil ?_
  refine JE_seq ?_
  refine JC_block ?_
  -- stop: loop
  refine JC_loopF (γ := Nat × Chunk) (fun q => q.1 ≤ (b.hi + 1 - b.lo).toNat ∧ J ((bdL b).take q.1) q.2) (fun q => [(5, I (b.lo + q.1))]) (fun q => [q.2]) (fun q => (b.hi + 1 - b.lo).toNat - q.1) (0, ch) ⟨Nat.zero_le _, by simpa using hJ⟩ (stsub_consI rfl (by simp) stsub_nil) (ht_cons ht_nil) ?_
  rintro ⟨i, c'⟩ ⟨hi, hJi⟩ K hK
  dsimp only [List.cons_append, List.nil_append] at hi hJi ⊢
  refine JC_seq ?_
  refine JC_seq ?_
  refine JC_region ?_
  refine JL_pd rfl (det_move rfl) ?_
  refine JL_pd rfl (det_fieldAddr rfl fo_71_1) ?_
  refine JL_dt rfl (det_loadK rfl Tryz.isAgg3 rfl) ?_
  refine JL_pd rfl (det_leq rfl rfl) ?_
  refine JL_nil ?_
  refine JE_seq ?_
  -- stop: cond
  refine JC_if rfl (fun h1 => ?_) (fun h1 => ?_)
  · have hi2 : i < (b.hi + 1 - b.lo).toNat := by omega
    have hsn := bdL_get b i hi2
    have hpx : (bdL b).take i ++ [b.lo + (i : Int)] <+: bdL b := by rw [← hsn]; exact List.take_prefix _ _
    refine JC_skip ?_
    refine JE_seq ?_
    refine JC_seq ?_
    refine JC_block ?_
    refine JC_seq ?_
    refine JC_region ?_
    refine JL_pd rfl (det_move rfl) ?_
    refine JL_dt rfl (det_loadKA rfl Tryz.isAgg136 Tryz.sizeOf136 rfl rfl) ?_
    refine JL_dt rfl (det_loadK rfl Tryz.isAgg3 rfl) ?_
    refine JL_pd rfl (det_move rfl) ?_
    refine JL_step rfl rfl rfl (jo_callv rfl rfl Tryz.call105 rfl (touched_j r a c S V row (b.lo + (i : Int)) (by omega))) fun _ => ?_
    -- stop: op  5 t19 := (call (Call (value t14) (t18) (134)))   <0 4 4>   118
    refine JL_step rfl rfl rfl (jo_yield c' rfl rfl rfl (hy _ (b.lo + (i : Int)) c' hJi hpx)) fun y => ?_
    refine JL_pd rfl (det_not rfl) ?_
    refine JL_nil ?_
    refine JE_seq ?_
    -- stop: cond
    refine JC_pure (p := if y.1 = true then J _ y.2 else Jx _ y.2) (fun w h => h.1) fun hq => ?_
    refine JC_cond rfl (fun k3 => ?_) (fun k3 => ?_)
    · simp only [Bool.not_eq_true'] at k3
      rw [k3, if_neg (by decide)] at hq
      refine JC_ret ?_
      refine JE_block_ret ?_
      refine JE_seq_ret ?_
      refine JE_then_ret ?_
      refine JE_block_ret ?_
      -- stop: out
      refine JE_out (.inl rfl) (_, false, (bdL b).take i ++ [b.lo + (i : Int)], y.2) (results0 Tryz.results107 ) rfl pick_perm (fun w h => by simp only [Bool.false_eq_true, if_false]; exact ⟨hpx, hq⟩)
    · simp only [Bool.not_eq_false'] at k3
      rw [k3, if_pos rfl] at hq
      refine JC_skip ?_
      refine JE_block ?_
      refine JE_seq ?_
      refine JC_region ?_
      refine JL_pd rfl (det_move rfl) ?_
      refine JL_pd rfl (det_add rfl rfl ⟨by omega, by omega⟩) ?_
      refine JL_pd rfl (det_assign rfl) ?_
      refine JL_nil ?_
      -- stop: end
      refine JE_roundF hK (i + 1, y.2) ⟨by simp only; omega, by simp only; rw [hsn]; exact hq⟩ (by simp only; omega) (stsub_consI rfl (by simp only; omega) stsub_nil) (ht_cons ht_nil)
  · refine JC_exit ?_
    refine JE_seq_exit ?_
    refine JE_then_exit ?_
    refine JE_block_here ?_
    -- stop: out
    rw [bdL_all b (by omega)] at hJi
    refine JE_out (.inr rfl) (_, true, [], c') (results0 Tryz.results107 ) rfl pick_perm (fun w h => by rw [if_pos rfl]; exact hJi)
end Go.Proofs.YthpkgabckklojaaGreat.Rk

/- Rack: Hit, where all is valid. -/
namespace Go.Proofs.YthpkgabckklojaaGreat.Rk
open Go.RowKit Go.Shelf

structure VT (r : Rk) (ball : List Rg) (over : List Int) (cs : List Bool) : Prop where
  n : over.length = ball.length
  b : ∀ i (h : i < ball.length) (h2 : i < over.length), ball[i].lo ≤ over[i] ∧ over[i] ≤ ball[i].hi
  m : cs.length = r.ls.length
  s : ∀ k (h : k < r.ls.length) (h2 : k < cs.length), r.ls[k].s = true → cs[k] = true
def ovF (over : List Int) (i : Nat) : Nat → Int := fun j => if j < i then over.getD j 0 else 0
theorem ovF_step {over : List Int} {i : Nat} (h : i < over.length) : updF (ovF over i) i over[i] = ovF over (i + 1) := by
  funext j
  unfold updF ovF
  by_cases e : j = i
  · subst e
    rw [if_pos rfl, if_pos (by omega), List.getD_eq_getElem?_getD, List.getElem?_eq_getElem h]; rfl
  · rw [if_neg e]
    by_cases e2 : j < i
    · rw [if_pos e2, if_pos (by omega)]
    · rw [if_neg e2, if_neg (by omega)]
theorem tchU_congr {r : Rk} {S : BS} {f g : Nat → Int} : ∀ {m : Nat}, (∀ j, j < m → f j = g j) → tchU r S f m = tchU r S g m
  | 0, _ => rfl
  | m + 1, h => by
    unfold tchU
    rw [tchU_congr (m := m) fun j hj => h j (by omega), h m (by omega)]
def cB (cs : List Bool) : Nat → Nat
  | 0 => 0
  | i + 1 => if cs.getD i false = true then cB cs i ||| 2 ^ i else cB cs i
theorem cB_lt (cs : List Bool) : ∀ n, cB cs n < 2 ^ n
  | 0 => Nat.one_pos
  | n + 1 => by
    have h := cB_lt cs n
    have h2 : 2 ^ n < 2 ^ (n + 1) := Nat.pow_lt_pow_right (by decide) (by omega)
    unfold cB
    split
    · exact Nat.or_lt_two_pow (by omega) h2
    · omega
theorem cB_bit (cs : List Bool) (k : Nat) : ∀ n, (cB cs n).testBit k = (decide (k < n) && cs.getD k false)
  | 0 => by simp [cB]
  | n + 1 => by
    have ih := cB_bit cs k n
    unfold cB
    by_cases hc : cs.getD n false = true
    · rw [if_pos hc, Nat.testBit_or, ih, Nat.testBit_two_pow]
      by_cases e : k = n
      · subst e; rw [hc]; simp
      · have : decide (k < n + 1) = decide (k < n) := by simp; omega
        rw [this]; simp [Ne.symm e]
    · rw [if_neg hc, ih]
      by_cases e : k = n
      · subst e
        have : cs.getD k false = false := by simpa using hc
        rw [this, Bool.and_false, Bool.and_false]
      · have : decide (k < n + 1) = decide (k < n) := by simp; omega
        rw [this]
theorem or64 {a b : Nat} (ha : a < 65536) (hb : b < 65536) : IntKind.i64.wrap ((BitVec.ofInt 64 (a : Int) ||| BitVec.ofInt 64 (b : Int)).toNat : Int) = ((a ||| b : Nat) : Int) := by
  have h1 : (BitVec.ofInt 64 (a : Int)).toNat = a := by rw [BitVec.toNat_ofInt, show ((2 ^ 64 : Nat) : Int) = 18446744073709551616 by decide]; omega
  have h2 : (BitVec.ofInt 64 (b : Int)).toNat = b := by rw [BitVec.toNat_ofInt, show ((2 ^ 64 : Nat) : Int) = 18446744073709551616 by decide]; omega
  have h3 : a ||| b < 2 ^ 16 := Nat.or_lt_two_pow (by omega) (by omega)
  rw [BitVec.toNat_or, h1, h2]
  exact i64_wrap ⟨by omega, by omega⟩
theorem shl64 {i : Nat} (hi : i < 16) : IntKind.i64.wrap (1 * 2 ^ min (i : Int).toNat 64) = ((2 ^ i : Nat) : Int) := by
  have hm : min (i : Int).toNat 64 = i := by rw [Int.toNat_natCast]; omega
  have hp : 2 ^ i < 2 ^ 16 := Nat.pow_lt_pow_right (by decide) hi
  rw [hm, Int.one_mul, show ((2 : Int) ^ i) = ((2 ^ i : Nat) : Int) by rw [Int.natCast_pow]; rfl]
  generalize 2 ^ i = m at hp ⊢
  exact i64_wrap ⟨by omega, by omega⟩
def carC (cs : List Bool) : Nat → Lk → Bool := fun k _ => cs.getD k false
theorem IsFl.congr {ls : List Lk} {S s0 : BS} {cf cg : Nat → Lk → Bool} {R : BS} (h : IsFl ls S s0 cf R) (e : ∀ k l, ls[k]? = some l → cf k l = cg k l) : IsFl ls S s0 cg R := fun i hi => by
  rw [h i hi]
  exact ⟨Fl.mono (fun _ h => h) fun k l hk hc => (e k l hk) ▸ hc, Fl.mono (fun _ h => h) fun k l hk hc => (e k l hk).symm ▸ hc⟩
theorem some_car {r : Rk} {ball : List Rg} {over : List Int} {cs : List Bool} (hT : VT r ball over cs) {k : Nat} {l : Lk} (hk : r.ls[k]? = some l) : someC (cB cs cs.length) k l = carC cs k l := by
  obtain ⟨h1, h2⟩ := List.getElem?_eq_some_iff.1 hk
  have h3 : k < cs.length := by rw [hT.m]; exact h1
  unfold someC carC
  rw [cB_bit, decide_eq_true h3, Bool.true_and]
  cases hs : l.s
  · rfl
  · have := hT.s k h1 h3 (by rw [h2]; exact hs)
    rw [List.getD_eq_getElem?_getD, List.getElem?_eq_getElem h3, this]; rfl
abbrev HitQ (r : Rk) (S : BS) (over : List Int) (cs : List Bool) := { R : BS // IsFl r.ls S (tchU r S (fun j => over.getD j 0) r.rows.toNat) (carC cs) R } × Option Addr × Nat
set_option maxRecDepth 100000 in
set_option maxHeartbeats 2000000 in
theorem Hit_j (r : Rk) (a : Option Addr) (c : Nat) (V : VR r) (la : Option Addr) (lc : Nat) (l : List Int) (hl : VP r l) (ba : Option Addr) (bc : Nat) (ball : List Rg) (hB : VB r ball) (oa : Option Addr) (oc : Nat) (over : List Int) (ca : Option Addr) (cc : Nat) (cs : List Bool) (hT : VT r ball over cs) :
    Cr Tryz.prog 19 [vRk r a c, .slice la l.length lc, .slice ba ball.length bc, .slice oa over.length oc, .slice ca cs.length cc] (KAnd (KRk r a c) (KAnd (KSl la l.length lc encN l) (KAnd (KSl ba ball.length bc encRg ball) (KAnd (KSl oa over.length oc encN over) (KSl ca cs.length cc encQ cs)))))
      (fun q : HitQ r (ofL l) over cs => .tuple #[.slice q.2.1 (lsP (ofL l &&& ~~~ q.1.1)).length q.2.2, I 0]) (fun q => KSl q.2.1 (lsP (ofL l &&& ~~~ q.1.1)).length q.2.2 encM (lsP (ofL l &&& ~~~ q.1.1))) := by
  have hn := V.n
  have r0 := V.r0
  have r1 := V.r1
  have hBn := hB.n
  have hTn := hT.n
  have hTm := hT.m
  refine Cx_of Tryz.func19 rfl Tryz.ntmps19 rfl fun w0 M0 => ?_
  refine JC_seq ?_
  refine JC_region ?_
  refine JL_step rfl rfl rfl (jo_box rfl rfl) fun b5 => ?_
  refine JL_pd rfl (det_assign rfl) ?_
  refine JL_pd rfl (det_assign rfl) ?_
  refine JL_nil ?_
  refine JE_seq ?_
  refine JC_seq ?_
  refine JC_region ?_
  refine JL_dt rfl (det_loadKA rfl Tryz.isAgg65 Tryz.sizeOf65 rfl rfl) ?_
  refine JL_pd rfl (det_move rfl) ?_
  refine JL_pd rfl (det_move rfl) ?_
  refine JL_step rfl rfl rfl (jo_callv rfl rfl Tryz.call57 rfl (thrown_j r a c V la lc l hl ba bc ball hB)) fun _ => ?_
  refine JL_pd rfl (det_move rfl) ?_
  refine JL_pd rfl (det_extract rfl rfl) ?_
  refine JL_pd rfl (det_extract rfl rfl) ?_
  refine JL_step rfl rfl rfl (jo_alloc0 Tryz.zeroValue136 rfl) fun b12 => ?_
  refine JL_step0 rfl rfl (jo_store rfl rfl rfl (by first | (simp only [splice_norm]; done) | (simp only [splice_norm]; rfl) | rfl) Tryz.sizeOf136 rfl rfl) fun _ => ?_
  refine JL_pd rfl (det_assign rfl) ?_
  refine JL_nil ?_
  refine JE_seq ?_
  refine JC_seq ?_
  refine JC_block ?_
  refine JC_seq ?_
  refine JC_region ?_
  refine JL_pd rfl (det_move rfl) ?_
  refine JL_pd rfl (det_neq rfl rfl) ?_
  refine JL_pd rfl (det_assign rfl) ?_
  refine JL_nil ?_
  refine JE_seq ?_
  -- stop: cond
  refine JC_ifn rfl (fun h1 => ?_) (fun h1 => ?_)
  · exact absurd rfl h1
  refine JC_seq ?_
  refine JC_region ?_
  refine JL_pd rfl (det_move rfl) ?_
  refine JL_pd rfl (det_len rfl Tryz.runUnderlying31) ?_
  refine JL_pd rfl (det_move rfl) ?_
  refine JL_pd rfl (det_len rfl Tryz.runUnderlying67) ?_
  refine JL_pd rfl (det_neq rfl rfl) ?_
  refine JL_pd rfl (det_move rfl) ?_
  -- stop: guard 5
  refine JL_is (d0 := 37) false rfl (by simp; omega) (fun g2 => ?_)
  refine JL_guard rfl rfl g2 ?_
  refine JL_pd rfl (det_move rfl) ?_
  refine JL_guard rfl rfl g2 ?_
  refine JL_pd rfl (det_len rfl Tryz.runUnderlying58) ?_
  refine JL_guard rfl rfl g2 ?_
  refine JL_pd rfl (det_fieldAddr rfl fo_65_4) ?_
  refine JL_guard rfl rfl g2 ?_
  refine JL_dt rfl (det_loadK rfl Tryz.isAgg63 rfl) ?_
  refine JL_guard rfl rfl g2 ?_
  refine JL_pd rfl (det_len rfl Tryz.runUnderlying63) ?_
  refine JL_guard rfl rfl g2 ?_
  refine JL_pd rfl (det_neq rfl rfl) ?_
  refine JL_pd rfl (det_pick_f rfl g2 rfl) ?_
  refine JL_pd rfl (det_assign rfl) ?_
  refine JL_nil ?_
  refine JE_seq ?_
  -- stop: cond
  refine JC_cond rfl (fun h3 => ?_) (fun h3 => ?_)
  · exact absurd h3 (by simp; omega)
  refine JC_skip ?_
  refine JE_block ?_
  refine JE_seq ?_
  refine JC_seq ?_
  refine JC_region ?_
  refine JL_step rfl rfl rfl (jo_alloc0 (cs := bdC fun _ => 0) Tryz.zeroValue140 rfl) fun b14 => ?_
  refine JL_nil ?_
  refine JE_seq ?_
  refine JC_seq ?_
  refine JC_seq ?_
  refine JC_region ?_
  refine JL_pd rfl (det_move rfl) ?_
  refine JL_pd rfl (det_len rfl Tryz.runUnderlying31) ?_
  refine JL_pd rfl (det_move rfl) ?_
  refine JL_nil ?_
  refine JE_seq ?_
  refine JC_block ?_
  -- stop: loop
  refine JC_loopF (γ := Nat) (fun i => i ≤ over.length) (fun i => [(47, I i)]) (fun i => [bx b14 (bdC (ovF over i))]) (fun i => over.length - i) 0 (Nat.zero_le _) (stsub_consI rfl rfl stsub_nil) (ht_bx rfl ht_nil) ?_
  intro i hi K hK
  dsimp only [List.cons_append, List.nil_append]
  refine JC_seq ?_
  refine JC_region ?_
  refine JL_pd rfl (det_lss rfl rfl) ?_
  refine JL_nil ?_
  refine JE_seq ?_
  refine JC_seq ?_
  -- stop: cond
  refine JC_if rfl (fun h4 => ?_) (fun h4 => ?_)
  · have hi2 : i < over.length := by omega
    have hib : i < ball.length := by omega
    have hi4 : i < 4 := by omega
    obtain ⟨hlo, hhi⟩ := hT.b i hib hi2
    refine JC_skip ?_
    refine JE_seq ?_
    refine JC_seq ?_
    refine JC_block ?_
    refine JC_seq ?_
    refine JC_region ?_
    refine JL_pd rfl (det_move rfl) ?_
    refine JL_dt rfl (det_indexAddr rfl rfl (by first | rfl | omega) (by first | assumption | omega | decide) Tryz.runUnderlying31 Tryz.sizeOf3) ?_
    refine JL_dt rfl (det_loadE rfl (by first | assumption | omega | decide) Tryz.isAgg3 rfl rfl) ?_
    refine JL_pd rfl (det_assign rfl) ?_
    refine JL_pd rfl (det_assign rfl) ?_
    refine JL_nil ?_
    refine JE_seq ?_
    refine JC_seq ?_
    refine JC_seq ?_
    refine JC_draw [] (by kernel_rfl) ?_
    refine JA_pd (i := 0) rfl (by kernel_rfl) rfl rfl (det_move rfl) ?_
    refine JA_pd (i := 1) rfl (by kernel_rfl) rfl rfl (det_move rfl) ?_
    refine JA_pd (i := 2) rfl (by kernel_rfl) rfl rfl (det_move rfl) ?_
    refine JA_dt (i := 3) rfl (by kernel_rfl) (by kernel_rfl) rfl rfl (det_indexAddr rfl rfl (by first | rfl | omega) (by first | assumption | omega | decide) Tryz.runUnderlying67 Tryz.sizeOf71) ?_
    refine JA_pd (i := 4) rfl (by kernel_rfl) rfl rfl (det_fieldAddrE rfl fo_71_0) ?_
    refine JA_dt (i := 5) rfl (by kernel_rfl) (by kernel_rfl) rfl rfl (det_loadEk rfl (by first | assumption | omega | decide) Tryz.isAgg3 rfl rfl) ?_
    refine JA_pd (i := 6) rfl (by kernel_rfl) rfl rfl (det_move rfl) ?_
    refine JA_pd (i := 7) rfl (by kernel_rfl) rfl rfl (det_move rfl) ?_
    refine JA_dt (i := 8) rfl (by kernel_rfl) (by kernel_rfl) rfl rfl (det_indexAddr rfl rfl (by first | rfl | omega) (by first | assumption | omega | decide) Tryz.runUnderlying67 Tryz.sizeOf71) ?_
    refine JA_pd (i := 9) rfl (by kernel_rfl) rfl rfl (det_fieldAddrE rfl fo_71_1) ?_
    refine JA_dt (i := 10) rfl (by kernel_rfl) (by kernel_rfl) rfl rfl (det_loadEk rfl (by first | assumption | omega | decide) Tryz.isAgg3 rfl rfl) ?_
    refine JA_one (i := 11) (by kernel_rfl) rfl rfl (jo_callv rfl rfl Tryz.call58 rfl (kwithin_j _ _ _)) (fun _ => ⟨hsub_refl, fun _ h => h⟩) fun _ => ?_
    refine JA_pd (i := 12) rfl (by kernel_rfl) rfl rfl (det_not rfl) ?_
    refine JA_done (by kernel_rfl) ?_
    refine JE_seq ?_
    -- stop: cond
    refine JC_cond rfl (fun h5 => ?_) (fun h5 => ?_)
    · rw [inI_iff.2 ⟨hlo, hhi⟩] at h5; cases h5
    refine JC_skip ?_
    refine JE_seq ?_
    refine JC_region ?_
    refine JL_pd rfl (det_move rfl) ?_
    refine JL_pd rfl (det_move rfl) ?_
    refine JL_pd rfl (det_indexArr (i := i) rfl rfl rfl hi4 Tryz.runUnderlying140 Tryz.sizeOf3) ?_
    refine JL_step0 rfl rfl (jo_store (vs := [I over[i]]) (cs := bdC (ovF over i)) (cs' := bdC (ovF over (i + 1))) rfl rfl rfl (by rw [bdC_set _ hi4, ovF_step hi2]) Tryz.sizeOf3 (by rw [Nat.ble_eq]; simp only [bdC, List.length_cons, List.length_nil]; omega) rfl) fun _ => ?_
    refine JL_nil ?_
    refine JE_block ?_
    refine JE_seq ?_
    refine JC_region ?_
    refine JL_pd rfl (det_add rfl rfl ⟨by omega, by omega⟩) ?_
    refine JL_pd rfl (det_move rfl) ?_
    refine JL_nil ?_
    -- stop: end
    refine JE_roundF hK (i + 1) (by omega) (by omega) (stsub_consI rfl (by omega) stsub_nil) (ht_cons ht_nil)
  · obtain rfl : i = over.length := by omega
    refine JC_exit ?_
    refine JE_seq_exit ?_
    refine JE_then_exit ?_
    refine JE_block_here ?_
    refine JE_seq ?_
    refine JC_seq ?_
    refine JC_region ?_
    refine JL_pd rfl (det_assign rfl) ?_
    refine JL_nil ?_
    refine JE_seq ?_
    refine JC_seq ?_
    refine JC_seq ?_
    refine JC_region ?_
    refine JL_pd rfl (det_move rfl) ?_
    refine JL_pd rfl (det_len rfl Tryz.runUnderlying58) ?_
    refine JL_pd rfl (det_move rfl) ?_
    refine JL_nil ?_
    refine JE_seq ?_
    refine JC_block ?_
    -- stop: loop
    refine JC_loopF (γ := Nat) (fun i => i ≤ cs.length) (fun i => [(71, I i), (17, I ((cB cs i : Nat) : Int))]) (fun _ => []) (fun i => cs.length - i) 0 (Nat.zero_le _) (stsub_consI rfl rfl (stsub_consI rfl rfl stsub_nil)) ht_nil ?_
    intro i hi K hK
    dsimp only [List.cons_append, List.nil_append]
    refine JC_seq ?_
    refine JC_region ?_
    refine JL_pd rfl (det_lss rfl rfl) ?_
    refine JL_nil ?_
    refine JE_seq ?_
    refine JC_seq ?_
    -- stop: cond
    refine JC_if rfl (fun h6 => ?_) (fun h6 => ?_)
    · have hi2 : i < cs.length := by omega
      have hil : i < r.ls.length := by omega
      have hsc := hT.s i hil hi2
      have hget : cs.getD i false = cs[i] := by rw [List.getD_eq_getElem?_getD, List.getElem?_eq_getElem hi2]; rfl
      have hcl := cB_lt cs i
      have h2i : 2 ^ i ≤ 2 ^ 12 := Nat.pow_le_pow_right (by decide) (by omega)
      have hor := or64 (a := cB cs i) (b := 2 ^ i) (by omega) (by omega)
      have hst : cB cs (i + 1) = if cs[i] = true then cB cs i ||| 2 ^ i else cB cs i := by rw [← hget]; rfl
      refine JC_skip ?_
      refine JE_seq ?_
      refine JC_seq ?_
      refine JC_block ?_
      refine JC_seq ?_
      refine JC_region ?_
      refine JL_pd rfl (det_move rfl) ?_
      refine JL_dt rfl (det_indexAddr rfl rfl (by first | rfl | omega) (by first | assumption | omega | decide) Tryz.runUnderlying58 Tryz.sizeOf4) ?_
      refine JL_dt rfl (det_loadE rfl (by first | assumption | omega | decide) Tryz.isAgg4 rfl rfl) ?_
      refine JL_pd rfl (det_assign rfl) ?_
      refine JL_pd rfl (det_assign rfl) ?_
      refine JL_nil ?_
      refine JE_seq ?_
      refine JC_seq ?_
      refine JC_seq ?_
      refine JC_region ?_
      refine JL_pd rfl (det_fieldAddr rfl fo_65_4) ?_
      refine JL_dt rfl (det_loadK rfl Tryz.isAgg63 rfl) ?_
      refine JL_pd rfl (det_move rfl) ?_
      refine JL_dt rfl (det_indexAddr rfl rfl (by first | rfl | omega) (by first | assumption | omega | decide) Tryz.runUnderlying63 Tryz.sizeOf141) ?_
      refine JL_pd rfl (det_fieldAddrE rfl fo_141_2) ?_
      refine JL_dt rfl (det_loadEk rfl (by first | assumption | omega | decide) Tryz.isAgg4 rfl rfl) ?_
      refine JL_pd rfl (det_move rfl) ?_
      -- stop: guard 6
      refine JL_join1 3 85 (.bool false) (fun hj => ?_) ?_
      · refine JL_split (d0 := 82) rfl (fun q1 => ?_) (fun q1 => ?_)
        · refine JL_guard rfl rfl q1 ?_
          refine JL_pd rfl (det_move rfl) ?_
          refine JL_guard rfl rfl q1 ?_
          refine JL_pd rfl (det_not rfl) ?_
          refine JL_pd rfl (det_pick_t rfl q1 rfl) ?_
          exact hj (by kernel_rfl) (stsub_consB rfl (by clear hj; first | rfl | (simp only [hsc, q1, Bool.and_true, Bool.true_and, Bool.false_and, Bool.and_false, Bool.or_true, Bool.true_or, Bool.or_false, Bool.false_or, Bool.not_true, Bool.not_false]; done) | (simp [hsc, q1]; done) | (simp [hsc] at q1; done) | (simp [hsc, q1] <;> omega) | (exfalso; simp [hsc] at q1; omega) | (simp [q1] at hsc; done) | (simp [q1] at hsc; simp [q1, hsc]; done)) stsub_nil)
        · refine JL_skip rfl rfl q1 rfl ?_
          refine JL_skip rfl rfl q1 rfl ?_
          refine JL_pd rfl (det_pick_f rfl q1 rfl) ?_
          exact hj (by kernel_rfl) (stsub_consB rfl (by clear hj; first | rfl | (simp only [hsc, q1, Bool.and_true, Bool.true_and, Bool.false_and, Bool.and_false, Bool.or_true, Bool.true_or, Bool.or_false, Bool.false_or, Bool.not_true, Bool.not_false]; done) | (simp [hsc, q1]; done) | (simp [hsc] at q1; done) | (simp [hsc, q1] <;> omega) | (exfalso; simp [hsc] at q1; omega) | (simp [q1] at hsc; done) | (simp [q1] at hsc; simp [q1, hsc]; done)) stsub_nil)
      refine JL_nil ?_
      refine JE_seq ?_
      refine JC_condF rfl rfl ?_
      refine JC_skip ?_
      refine JE_seq ?_
      refine JC_seq ?_
      refine JC_region ?_
      refine JL_pd rfl (det_move rfl) ?_
      refine JL_nil ?_
      refine JE_seq ?_
      -- stop: cond
      refine JC_cond rfl (fun h7 => ?_) (fun h7 => ?_)
      · rw [if_pos h7] at hst
        refine JC_region ?_
        refine JL_pd rfl (det_move rfl) ?_
        refine JL_pd rfl (det_move rfl) ?_
        refine JL_pd rfl (det_shlR ((2 ^ i : Nat) : Int) rfl rfl (by omega) (shl64 (by omega))) ?_
        refine JL_pd rfl (det_orR ((cB cs i ||| 2 ^ i : Nat) : Int) rfl rfl hor) ?_
        refine JL_pd rfl (det_assign rfl) ?_
        refine JL_nil ?_
        refine JE_block ?_
        refine JE_seq ?_
        refine JC_region ?_
        refine JL_pd rfl (det_add rfl rfl ⟨by omega, by omega⟩) ?_
        refine JL_pd rfl (det_move rfl) ?_
        refine JL_nil ?_
        -- stop: end
        refine JE_roundF hK (i + 1) (by omega) (by omega) (stsub_consI rfl (by omega) (stsub_consI rfl (by rw [hst]) stsub_nil)) ht_nil
      · rw [if_neg (by rw [h7]; decide)] at hst
        refine JC_skip ?_
        refine JE_block ?_
        refine JE_seq ?_
        refine JC_region ?_
        refine JL_pd rfl (det_add rfl rfl ⟨by omega, by omega⟩) ?_
        refine JL_pd rfl (det_move rfl) ?_
        refine JL_nil ?_
        -- stop: end
        refine JE_roundF hK (i + 1) (by omega) (by omega) (stsub_consI rfl (by omega) (stsub_consI rfl (by rw [hst]) stsub_nil)) ht_nil
    · obtain rfl : i = cs.length := by omega
      have hcl := cB_lt cs cs.length
      have h12 : 2 ^ cs.length ≤ 2 ^ 12 := Nat.pow_le_pow_right (by decide) (by omega)
      have hov : ∀ j, j < 4 → -1000 ≤ ovF over over.length j ∧ ovF over over.length j ≤ 1000 := fun j _ => by
        unfold ovF
        split
        · rename_i hj
          have hjb : j < ball.length := by omega
          have h1 := hT.b j hjb hj
          have h2 := bOk_iff.1 (hB.b _ (List.getElem_mem hjb))
          rw [List.getD_eq_getElem?_getD, List.getElem?_eq_getElem hj]
          simp only [Option.getD_some]
          omega
        · omega
      have hcg : tchU r (ofL l) (ovF over over.length) r.rows.toNat = tchU r (ofL l) (fun j => over.getD j 0) r.rows.toNat := tchU_congr fun j hj => by
        unfold ovF; rw [if_pos (by omega)]
      refine JC_exit ?_
      refine JE_seq_exit ?_
      refine JE_then_exit ?_
      refine JE_block_here ?_
      refine JE_seq ?_
      refine JC_seq ?_
      refine JC_draw [] (by kernel_rfl) ?_
      refine JA_pd (i := 0) rfl (by kernel_rfl) rfl rfl (det_fieldAddr rfl fo_136_1) ?_
      refine JA_dt (i := 1) rfl (by kernel_rfl) (by kernel_rfl) rfl rfl (det_loadK rfl Tryz.isAgg134 rfl) ?_
      refine JA_dt (i := 2) rfl (by kernel_rfl) (by kernel_rfl) rfl rfl (det_loadKA rfl Tryz.isAgg136 Tryz.sizeOf136 rfl rfl) ?_
      refine JA_dt (i := 3) rfl (by kernel_rfl) (by kernel_rfl) rfl rfl (det_loadKA rfl Tryz.isAgg140 Tryz.sizeOf140 rfl rfl) ?_
      refine JA_pd (i := 4) rfl (by kernel_rfl) rfl rfl (det_build rfl (bld_146_0 _ _ _)) ?_
      refine JA_pd (i := 5) rfl (by kernel_rfl) rfl rfl (det_move rfl) ?_
      refine JA_one (i := 6) (by kernel_rfl) rfl rfl (jo_call rfl rfl Tryz.call59 rfl (felled_j r a c (ofL l) V 60 Tryz.call60 ((cB cs cs.length : Nat) : Int) (someC (cB cs cs.length)) (fun k l hk => some_j l k (cB cs cs.length) hk (by omega)) (ovF over over.length) hov)) (fun _ => ⟨hsub_drop 0 rfl, fun _ h => h.2⟩) fun x98 => ?_
      refine JA_pd (i := 7) rfl (by kernel_rfl) rfl rfl (det_anS _ _ rfl rfl) ?_
      refine JA_one (i := 8) (by kernel_rfl) rfl rfl (jo_call rfl rfl Tryz.call61 rfl (list_j (ofL l &&& ~~~ x98.1))) (fun _ => ⟨hsub_drop 0 rfl, fun _ h => h.2⟩) fun x100 => ?_
      refine JA_pd (i := 9) rfl (by kernel_rfl) rfl rfl (det_assign rfl) ?_
      refine JA_pd (i := 10) rfl (by kernel_rfl) rfl rfl (det_assign rfl) ?_
      refine JA_done (by kernel_rfl) ?_
      refine JE_seq ?_
      refine JC_ret ?_
      -- stop: out
      refine JE_out (.inl rfl) (⟨x98.1, by rw [← hcg]; exact x98.2.congr fun k l hk => some_car hT hk⟩, x100) (results2 Tryz.results19 (res_tmp rfl) (res_tmp rfl)) rfl (List.Perm.refl _) (fun w h => h.1)
end Go.Proofs.YthpkgabckklojaaGreat.Rk

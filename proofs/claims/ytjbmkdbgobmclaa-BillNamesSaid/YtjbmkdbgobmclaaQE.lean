/- Own texts, laid together: B42 B43. Nothing is asked. -/
import Derived.Test.YtjbmkdbgobmclaaQD
set_option linter.unusedSimpArgs false
set_option linter.unusedVariables false
/- Walks of the reference of bill: the best purchase. -/
namespace Go.Proofs.Ytjbmkdbgobmclaa
open Go.RowKit Go.Shelf

/-- The best purchase that begins so. -/
def rb (at_ : Int) (l : List Of) (need : Am) : Nat → List Int → Option Bt
  | 0, p => if alP at_ l p = true ∧ leA need (hvP l p) = true then some (btP l p) else none
  | k + 1, p => pickB (fun n => rb at_ l need k (p ++ [(n : Int)])) ((l.getD p.length default).most.toNat + 1)
theorem rb_sound {at_ : Int} {l : List Of} {need : Am} : ∀ (k : Nat) (p : List Int) (b : Bt), rb at_ l need k p = some b → alP at_ l b.list = true ∧ leA need (hvP l b.list) = true ∧ b = btP l b.list
  | 0, p, b, h => by
    unfold rb at h
    split at h
    · rename_i e; cases h; exact ⟨e.1, e.2, rfl⟩
    · cases h
  | k + 1, p, b, h => by
    unfold rb at h
    obtain ⟨i, _, e⟩ := pickB_mem h
    exact rb_sound k _ b e
theorem rb_complete {at_ : Int} {l : List Of} {need : Am} (hV : ∀ o ∈ l, VOf o) : ∀ (k : Nat) (p q : List Int), p.length + k = l.length → p <+: q → alP at_ l q = true → leA need (hvP l q) = true → ∃ b, rb at_ l need k p = some b ∧ ¬ befV (btP l q) b < 0
  | 0, p, q, hk, hp, h1, h2 => by
    have hl := alP_len h1
    have : p = q := List.IsPrefix.eq_of_length hp (by omega)
    subst this
    unfold rb
    rw [if_pos ⟨h1, h2⟩]
    exact ⟨_, rfl, befV_irrefl _⟩
  | k + 1, p, q, hk, hp, h1, h2 => by
    have hl := alP_len h1
    obtain ⟨r, rfl⟩ := hp
    rw [List.length_append] at hl
    obtain ⟨x, r, rfl⟩ : ∃ x r', r = x :: r' := by
      cases r with
      | nil => simp at hl; omega
      | cons x r => exact ⟨x, r, rfl⟩
    have hpl : p.length < l.length := by omega
    have hx := alP_get h1 p.length hpl (by rw [List.length_append, List.length_cons]; omega)
    rw [List.getElem_append_right (by omega)] at hx
    simp only [Nat.sub_self, List.getElem_cons_zero] at hx
    have hx := inI_iff.1 hx
    have hv := hV _ (List.getElem_mem hpl)
    have hm : mostV l[p.length] at_ ≤ l[p.length].most := by have := hv.m0; unfold mostV; split <;> omega
    obtain ⟨n, rfl⟩ : ∃ n : Nat, x = n := ⟨x.toNat, by omega⟩
    obtain ⟨b, e1, e2⟩ := rb_complete hV k (p ++ [(n : Int)]) (p ++ (n : Int) :: r) (by rw [List.length_append]; simp only [List.length_cons, List.length_nil]; omega) ⟨r, by simp⟩ h1 h2
    obtain ⟨c, e3, e4⟩ := pickB_min (f := fun n => rb at_ l need k (p ++ [(n : Int)])) (n := (l.getD p.length default).most.toNat + 1) (i := n) (b := b) (by rw [List.getD_eq_getElem?_getD, List.getElem?_eq_getElem hpl]; simp only [Option.getD_some]; omega) e1
    exact ⟨c, by unfold rb; exact e3, befV_cmp e2 e4⟩
theorem rb_bst {at_ : Int} {l : List Of} {need : Am} (hV : ∀ o ∈ l, VOf o) (hn : am12 need) : rb at_ l need l.length [] = bst at_ l need := by
  cases h : rb at_ l need l.length [] with
  | some b =>
    obtain ⟨h1, h2, h3⟩ := rb_sound _ _ _ h
    obtain ⟨c, e1, e2⟩ := bst_complete at_ l need b.list hV hn h1 h2
    obtain ⟨s1, s2, s3⟩ := bst_sound at_ l need c hV hn e1
    obtain ⟨d, f1, f2⟩ := rb_complete (need := need) hV l.length [] c.list (by simp) (List.nil_prefix) s1 s2
    rw [h] at f1
    obtain rfl : b = d := by simpa using f1
    rw [← h3] at e2
    rw [← s3] at f2
    rw [e1, befV_total f2 e2]
  | none =>
    cases hb : bst at_ l need with
    | none => rfl
    | some c =>
      obtain ⟨s1, s2, s3⟩ := bst_sound at_ l need c hV hn hb
      obtain ⟨d, f1, f2⟩ := rb_complete (need := need) hV l.length [] c.list (by simp) (List.nil_prefix) s1 s2
      rw [h] at f1; cases f1
def betB (l : List Of) (p q : List Int) : Bool := decide (befV (btP l p) (btP l q) < 0)
theorem alP_12 {at_ : Int} {l : List Of} {p : List Int} (hV : ∀ o ∈ l, VOf o) (h : alP at_ l p = true) : ∀ x ∈ p, 0 ≤ x ∧ x ≤ 12 := fun x hx => by
  obtain ⟨i, hi, rfl⟩ := List.mem_iff_getElem.1 hx
  have hl := alP_len h
  have h1 := inI_iff.1 (alP_get h i (by omega) hi)
  have h2 := most_bd (hV _ (List.getElem_mem (show i < l.length by omega))) at_
  omega
set_option maxRecDepth 100000 in
set_option maxHeartbeats 1000000 in
theorem Better_j (a : Option Addr) (c : Nat) (ls : List Of) (at_ : Int) (pa : Option Addr) (pc : Nat) (p : List Int) (qa : Option Addr) (qc : Nat) (q : List Int) (hl : ls.length ≤ 6) (hV : ∀ o ∈ ls, VOf o) (hp : alP at_ ls p = true) (hq : alP at_ ls q = true) : Cv Try.prog 47 [.slice a ls.length c, .slice pa p.length pc, .slice qa q.length qc] (KAnd (KSl a ls.length c encO ls) (KAnd (KSl pa p.length pc encI p) (KSl qa q.length qc encI q))) (.bool (betB ls p q)) := by
  have hpl := alP_len hp
  have hql := alP_len hq
  have hp12 := alP_12 hV hp
  have hq12 := alP_12 hV hq
  have hcp := Cost_j a c ls at_ pa pc p (by omega) hV hp
  have hcq := Cost_j a c ls at_ qa qc q (by omega) hV hq
  have hmp := Many_j pa pc p (by omega) fun x hx => by have := hp12 x hx; omega
  have hmq := Many_j qa qc q (by omega) fun x hx => by have := hq12 x hx; omega
  have hiff := befV_iff (btP ls p) (btP ls q)
  unfold betB
  generalize befV (btP ls p) (btP ls q) = V at hiff ⊢
  simp only [btP] at hiff
  refine Cx_of Try.func47 rfl Try.ntmps47 rfl fun w0 M0 => ?_
  refine JC_seq ?_
  refine JC_region ?_
  refine JL_pd rfl (det_assign rfl) ?_
  refine JL_nil ?_
  refine JE_seq ?_
  refine JC_seq ?_
  refine JC_seq ?_
  refine JC_region ?_
  refine JL_pd rfl (det_move rfl) ?_
  refine JL_pd rfl (det_move rfl) ?_
  -- stop: op  2 t10 := (call (Call (value f45) (t8 t9) (50 22)))   <0 1>   82
  refine JL_step rfl rfl rfl (jo_callv rfl rfl Try.call45 rfl (hcp)) fun _ => ?_
  refine JL_pd rfl (det_move rfl) ?_
  refine JL_pd rfl (det_move rfl) ?_
  -- stop: op  5 t13 := (call (Call (value f45) (t11 t12) (50 22)))   <3 4 2>   82
  refine JL_step rfl rfl rfl (jo_callv rfl rfl Try.call45 rfl (hcq)) fun _ => ?_
  refine JL_pd rfl (det_neq rfl rfl) ?_
  refine JL_nil ?_
  refine JE_seq ?_
  -- stop: cond
  refine JC_ifn rfl (fun h1 => ?_) (fun h1 => ?_)
  · refine JC_seq ?_
    refine JC_region ?_
    refine JL_pd rfl (det_move rfl) ?_
    refine JL_pd rfl (det_move rfl) ?_
    -- stop: op  2 t17 := (call (Call (value f45) (t15 t16) (50 22)))   <0 1>   83
    refine JL_step rfl rfl rfl (jo_callv rfl rfl Try.call45 rfl (hcp)) fun _ => ?_
    refine JL_pd rfl (det_move rfl) ?_
    refine JL_pd rfl (det_move rfl) ?_
    -- stop: op  5 t20 := (call (Call (value f45) (t18 t19) (50 22)))   <3 4 2>   83
    refine JL_step rfl rfl rfl (jo_callv rfl rfl Try.call45 rfl (hcq)) fun _ => ?_
    refine JL_pd rfl (det_lss rfl rfl) ?_
    refine JL_pd rfl (det_assign rfl) ?_
    refine JL_nil ?_
    refine JE_seq ?_
    refine JC_ret ?_
    refine JE_seq_ret ?_
    -- stop: out
    refine JE_out (.inl rfl) () (results1 Try.results47 (res_tmp rfl)) (by congr 1; exact decide_eq_decide.2 (by omega)) (List.Perm.refl _) (fun _ _ => trivial)
  · have h1 : coP ls p = coP ls q := h1
    refine JC_skip ?_
    refine JE_seq ?_
    refine JC_seq ?_
    refine JC_seq ?_
    refine JC_region ?_
    refine JL_pd rfl (det_move rfl) ?_
    -- stop: op  1 t23 := (call (Call (value f76) (t22) (22)))   <0>   85
    refine JL_step rfl rfl rfl (jo_callv rfl rfl Try.call76 rfl (hmp)) fun _ => ?_
    refine JL_pd rfl (det_move rfl) ?_
    -- stop: op  3 t25 := (call (Call (value f76) (t24) (22)))   <2 1>   85
    refine JL_step rfl rfl rfl (jo_callv rfl rfl Try.call76 rfl (hmq)) fun _ => ?_
    refine JL_pd rfl (det_neq rfl rfl) ?_
    refine JL_nil ?_
    refine JE_seq ?_
    -- stop: cond
    refine JC_ifn rfl (fun h2 => ?_) (fun h2 => ?_)
    · refine JC_seq ?_
      refine JC_region ?_
      refine JL_pd rfl (det_move rfl) ?_
      -- stop: op  1 t28 := (call (Call (value f76) (t27) (22)))   <0>   86
      refine JL_step rfl rfl rfl (jo_callv rfl rfl Try.call76 rfl (hmp)) fun _ => ?_
      refine JL_pd rfl (det_move rfl) ?_
      -- stop: op  3 t30 := (call (Call (value f76) (t29) (22)))   <2 1>   86
      refine JL_step rfl rfl rfl (jo_callv rfl rfl Try.call76 rfl (hmq)) fun _ => ?_
      refine JL_pd rfl (det_lss rfl rfl) ?_
      refine JL_pd rfl (det_assign rfl) ?_
      refine JL_nil ?_
      refine JE_seq ?_
      refine JC_ret ?_
      refine JE_seq_ret ?_
      -- stop: out
      refine JE_out (.inl rfl) () (results1 Try.results47 (res_tmp rfl)) (by congr 1; exact decide_eq_decide.2 (by omega)) (List.Perm.refl _) (fun _ _ => trivial)
    · have h2 : p.sum = q.sum := h2
      refine JC_skip ?_
      refine JE_seq ?_
      refine JC_seq ?_
      refine JC_seq ?_
      refine JC_region ?_
      refine JL_pd rfl (det_assign rfl) ?_
      refine JL_nil ?_
      refine JE_seq ?_
      refine JC_block ?_
      -- stop: loop
      refine JC_loopF (γ := Nat) (fun i => i ≤ p.length ∧ p.take i = q.take i) (fun i => [(7, I i)]) (fun _ => []) (fun i => p.length - i) 0 ⟨Nat.zero_le _, rfl⟩ (stsub_consI rfl rfl stsub_nil) ht_nil ?_
      rintro i ⟨hi, he⟩ K hK
      dsimp only [List.cons_append, List.nil_append]
      refine JC_seq ?_
      refine JC_seq ?_
      refine JC_region ?_
      refine JL_pd rfl (det_move rfl) ?_
      refine JL_pd rfl (det_move rfl) ?_
      refine JL_pd rfl (det_len rfl Try.runUnderlying22) ?_
      refine JL_pd rfl (det_lss rfl rfl) ?_
      refine JL_nil ?_
      refine JE_seq ?_
      -- stop: cond
      refine JC_if rfl (fun h3 => ?_) (fun h3 => ?_)
      · have hi2 : i < p.length := by omega
        have hi3 : i < q.length := by omega
        have hca := cmpL_at he
        rw [List.drop_eq_getElem_cons hi2, List.drop_eq_getElem_cons hi3] at hca
        have hcr : cmpL (p[i] :: p.drop (i + 1)) (q[i] :: q.drop (i + 1)) = if p[i] < q[i] then -1 else if q[i] < p[i] then 1 else cmpL (p.drop (i + 1)) (q.drop (i + 1)) := rfl
        rw [hcr] at hca
        refine JC_skip ?_
        refine JE_seq ?_
        refine JC_seq ?_
        refine JC_block ?_
        refine JC_seq ?_
        refine JC_draw [] (by kernel_rfl) ?_
        refine JA_pd (i := 0) rfl (by kernel_rfl) rfl rfl (det_move rfl) ?_
        refine JA_pd (i := 1) rfl (by kernel_rfl) rfl rfl (det_move rfl) ?_
        refine JA_dt (i := 2) rfl (by kernel_rfl) (by kernel_rfl) rfl rfl (det_indexAddr rfl rfl (by first | rfl | omega) (by first | assumption | omega | decide) Try.runUnderlying22 Try.sizeOf3) ?_
        refine JA_dt (i := 3) rfl (by kernel_rfl) (by kernel_rfl) rfl rfl (det_loadE rfl (by first | assumption | omega | decide) Try.isAgg3 rfl rfl) ?_
        refine JA_pd (i := 4) rfl (by kernel_rfl) rfl rfl (det_move rfl) ?_
        refine JA_pd (i := 5) rfl (by kernel_rfl) rfl rfl (det_move rfl) ?_
        refine JA_dt (i := 6) rfl (by kernel_rfl) (by kernel_rfl) rfl rfl (det_indexAddr rfl rfl (by first | rfl | omega) (by first | assumption | omega | decide) Try.runUnderlying22 Try.sizeOf3) ?_
        refine JA_dt (i := 7) rfl (by kernel_rfl) (by kernel_rfl) rfl rfl (det_loadE rfl (by first | assumption | omega | decide) Try.isAgg3 rfl rfl) ?_
        refine JA_pd (i := 8) rfl (by kernel_rfl) rfl rfl (det_neq rfl rfl) ?_
        refine JA_done (by kernel_rfl) ?_
        refine JE_seq ?_
        -- stop: cond
        refine JC_ifn rfl (fun h4 => ?_) (fun h4 => ?_)
        · refine JC_seq ?_
          refine JC_draw [] (by kernel_rfl) ?_
          refine JA_pd (i := 0) rfl (by kernel_rfl) rfl rfl (det_move rfl) ?_
          refine JA_pd (i := 1) rfl (by kernel_rfl) rfl rfl (det_move rfl) ?_
          refine JA_dt (i := 2) rfl (by kernel_rfl) (by kernel_rfl) rfl rfl (det_indexAddr rfl rfl (by first | rfl | omega) (by first | assumption | omega | decide) Try.runUnderlying22 Try.sizeOf3) ?_
          refine JA_dt (i := 3) rfl (by kernel_rfl) (by kernel_rfl) rfl rfl (det_loadE rfl (by first | assumption | omega | decide) Try.isAgg3 rfl rfl) ?_
          refine JA_pd (i := 4) rfl (by kernel_rfl) rfl rfl (det_move rfl) ?_
          refine JA_pd (i := 5) rfl (by kernel_rfl) rfl rfl (det_move rfl) ?_
          refine JA_dt (i := 6) rfl (by kernel_rfl) (by kernel_rfl) rfl rfl (det_indexAddr rfl rfl (by first | rfl | omega) (by first | assumption | omega | decide) Try.runUnderlying22 Try.sizeOf3) ?_
          refine JA_dt (i := 7) rfl (by kernel_rfl) (by kernel_rfl) rfl rfl (det_loadE rfl (by first | assumption | omega | decide) Try.isAgg3 rfl rfl) ?_
          refine JA_pd (i := 8) rfl (by kernel_rfl) rfl rfl (det_lss rfl rfl) ?_
          refine JA_pd (i := 9) rfl (by kernel_rfl) rfl rfl (det_assign rfl) ?_
          refine JA_done (by kernel_rfl) ?_
          refine JE_seq ?_
          refine JC_ret ?_
          refine JE_block_ret ?_
          refine JE_seq_ret ?_
          refine JE_then_ret ?_
          refine JE_block_ret ?_
          refine JE_seq_ret ?_
          -- stop: out
          refine JE_out (.inl rfl) () (results1 Try.results47 (res_tmp rfl)) (by congr 1; refine decide_eq_decide.2 ?_; by_cases hh : p[i] < q[i]; (rw [if_pos hh] at hca; omega); (rw [if_neg hh, if_pos (by omega)] at hca; omega)) (List.Perm.refl _) (fun _ _ => trivial)
        · refine JC_skip ?_
          refine JE_block ?_
          refine JE_seq ?_
          refine JC_region ?_
          refine JL_pd rfl (det_move rfl) ?_
          refine JL_pd rfl (det_add rfl rfl ⟨by omega, by omega⟩) ?_
          refine JL_pd rfl (det_assign rfl) ?_
          refine JL_nil ?_
          -- stop: end
          refine JE_roundF hK (i + 1) ⟨by omega, by rw [take_snoc hi2, take_snoc hi3, he, h4]⟩ (by omega) (stsub_consI rfl (by omega) stsub_nil) ht_nil
      · obtain rfl : i = p.length := by omega
        have hpq : p = q := by rw [List.take_length, hpl, ← hql, List.take_length] at he; exact he
        have hc0 := cmpL_self p
        rw [← hpq] at hiff
        refine JC_exit ?_
        refine JE_seq_exit ?_
        refine JE_then_exit ?_
        refine JE_block_here ?_
        refine JE_seq ?_
        refine JC_seq ?_
        refine JC_region ?_
        refine JL_pd rfl (det_assign rfl) ?_
        refine JL_nil ?_
        refine JE_seq ?_
        refine JC_ret ?_
        -- stop: out
        refine JE_out (.inl rfl) () (results1 Try.results47 (res_tmp rfl)) (by rw [decide_eq_false (show ¬ V < 0 by omega)]) (List.Perm.refl _) (fun _ _ => trivial)
end Go.Proofs.Ytjbmkdbgobmclaa

/- Walks of the reference of bill: the best purchase of all. -/
namespace Go.Proofs.Ytjbmkdbgobmclaa
open Go.RowKit Go.Shelf

abbrev Loc := Option Addr × Nat × Nat
def KBt (r : Option Bt) (q : Loc) : World → Prop := fun w => ∀ b, r = some b → q.2.1 = b.list.length ∧ KSl q.1 b.list.length q.2.2 encI b.list w
theorem pickB_no {f : Nat → Option Bt} {n : Nat} (h : f n = none) : pickB f (n + 1) = pickB f n := pickB_none h
set_option maxRecDepth 100000 in
set_option maxHeartbeats 4000000 in
theorem rBest_j (a : Option Addr) (c : Nat) (ls : List Of) (need : Am) (at_ : Int) (hl : ls.length ≤ 6) (hV : ∀ o ∈ ls, VOf o) : ∀ (k : Nat) (ba : Option Addr) (bc : Nat) (bs : List Int), bs.length + k = ls.length →
    Cr Try.prog 46 [.slice a ls.length c, .agg #[I need.g, I need.q, I need.s], I at_, .slice ba bs.length bc] (KAnd (KSl a ls.length c encO ls) (KSl ba bs.length bc encI bs)) (fun q : Loc => .tuple #[.slice q.1 q.2.1 q.2.2, .bool (rb at_ ls need k bs).isSome]) (fun q => KBt (rb at_ ls need k bs) q) := by
  intro k
  induction k with
  | zero =>
    intro ba bc bs hk
    have haj := Allowed_j a c ls at_ ba bc bs (by omega) hV
    unfold rb
    refine Cx_of Try.func46 rfl Try.ntmps46 rfl fun w0 M0 => ?_
    refine JC_seq ?_
    refine JC_region ?_
    refine JL_step rfl rfl rfl (jo_box rfl rfl) fun b5 => ?_
    refine JL_pd rfl (det_assign rfl) ?_
    refine JL_pd rfl (det_assign rfl) ?_
    refine JL_nil ?_
    refine JE_seq ?_
    refine JC_seq ?_
    refine JC_seq ?_
    refine JC_region ?_
    refine JL_pd rfl (det_move rfl) ?_
    refine JL_pd rfl (det_len rfl Try.runUnderlying22) ?_
    refine JL_pd rfl (det_move rfl) ?_
    refine JL_pd rfl (det_len rfl Try.runUnderlying50) ?_
    refine JL_pd rfl (det_eql rfl rfl) ?_
    refine JL_nil ?_
    refine JE_seq ?_
    -- stop: cond
    refine JC_if rfl (fun h1 => ?_) (fun h1 => ?_)
    · skip
      refine JC_seq ?_
      refine JC_region ?_
      refine JL_pd rfl (det_move rfl) ?_
      refine JL_pd rfl (det_move rfl) ?_
      refine JL_pd rfl (det_move rfl) ?_
      refine JL_pd rfl (det_move rfl) ?_
      refine JL_step rfl rfl rfl (jo_callv rfl rfl Try.call43 rfl (haj)) fun _ => ?_
      refine JL_pd rfl (det_move rfl) ?_
      -- stop: guard 5
      by_cases h2 : alP at_ ls bs = true
      · have hcj := Covers_j a c ls need at_ ba bc bs (by omega) hV h2
        rw [h2]
        refine JL_is (d0 := 25) true rfl (by rfl) (fun g1 => ?_)
        refine JL_guard rfl rfl g1 ?_
        refine JL_pd rfl (det_move rfl) ?_
        refine JL_guard rfl rfl g1 ?_
        refine JL_dt rfl (det_loadKA rfl Try.isAgg52 Try.sizeOf52 rfl rfl) ?_
        refine JL_guard rfl rfl g1 ?_
        refine JL_pd rfl (det_move rfl) ?_
        refine JL_guard rfl rfl g1 ?_
        refine JL_step rfl rfl rfl (jo_callv rfl rfl Try.call44 rfl (hcj)) fun _ => ?_
        refine JL_pd rfl (det_pick_t rfl g1 rfl) ?_
        refine JL_pd rfl (det_assign rfl) ?_
        refine JL_pd rfl (det_assign rfl) ?_
        refine JL_nil ?_
        refine JE_seq ?_
        refine JC_ret ?_
        refine JE_seq_ret ?_
        -- stop: out
        refine JE_out (.inl rfl) (ba, bs.length, bc) (results2 Try.results46 (res_tmp rfl) (res_tmp rfl)) (by by_cases h3 : leA need (hvP ls bs) = true; (rw [if_pos ⟨rfl, h3⟩, h3]; rfl); (rw [if_neg (fun h => h3 h.2)]; rw [Bool.not_eq_true] at h3; rw [h3]; rfl)) (List.Perm.refl _) (fun w h b hb => by split at hb; (cases hb; exact ⟨rfl, Knows.know (F := KSl ba bs.length bc encI bs) w h⟩); (cases hb))
      · rw [Bool.not_eq_true] at h2
        rw [h2]
        refine JL_is (d0 := 25) false rfl (by rfl) (fun g1 => ?_)
        refine JL_skip rfl rfl g1 rfl ?_
        refine JL_skip rfl rfl g1 rfl ?_
        refine JL_skip rfl rfl g1 rfl ?_
        refine JL_skip rfl rfl g1 rfl ?_
        refine JL_pd rfl (det_pick_f rfl g1 rfl) ?_
        refine JL_pd rfl (det_assign rfl) ?_
        refine JL_pd rfl (det_assign rfl) ?_
        refine JL_nil ?_
        refine JE_seq ?_
        refine JC_ret ?_
        refine JE_seq_ret ?_
        -- stop: out
        refine JE_out (.inl rfl) (ba, bs.length, bc) (results2 Try.results46 (res_tmp rfl) (res_tmp rfl)) (by rw [if_neg (fun h => by cases h.1)]; rfl) (List.Perm.refl _) (fun w h b hb => by rw [if_neg (fun h => by cases h.1)] at hb; cases hb)
    · exact absurd (by omega) h1
  | succ k IH =>
    intro ba bc bs hk
    have hbl : bs.length < ls.length := by omega
    have hv := hV _ (List.getElem_mem hbl)
    have v1 := hv.m0
    have v2 := hv.m1
    obtain ⟨M, hM⟩ : ∃ M : Nat, ls[bs.length].most = (M : Int) := ⟨ls[bs.length].most.toNat, by omega⟩
    have hres : rb at_ ls need (k + 1) bs = pickB (fun n => rb at_ ls need k (bs ++ [(n : Int)])) (M + 1) := by
      rw [rb, List.getD_eq_getElem?_getD, List.getElem?_eq_getElem hbl]
      simp only [Option.getD_some, hM, Int.toNat_natCast]
    rw [hres]
    generalize hf : (fun n : Nat => rb at_ ls need k (bs ++ [(n : Int)])) = f
    have hfj : ∀ j, f j = rb at_ ls need k (bs ++ [(j : Int)]) := fun j => by rw [← hf]
    have hsnd : ∀ j b, f j = some b → alP at_ ls b.list = true ∧ b = btP ls b.list := fun j b h => by
      rw [hfj] at h
      have := rb_sound k _ b h
      exact ⟨this.1, this.2.2⟩
    have hpk : ∀ j b, pickB f j = some b → alP at_ ls b.list = true ∧ b = btP ls b.list := fun j b h => by
      obtain ⟨i, _, e⟩ := pickB_mem h
      exact hsnd i b e
    refine Cx_of Try.func46 rfl Try.ntmps46 rfl fun w0 M0 => ?_
    refine JC_seq ?_
    refine JC_region ?_
    refine JL_step rfl rfl rfl (jo_box rfl rfl) fun b5 => ?_
    refine JL_pd rfl (det_assign rfl) ?_
    refine JL_pd rfl (det_assign rfl) ?_
    refine JL_nil ?_
    refine JE_seq ?_
    refine JC_seq ?_
    refine JC_seq ?_
    refine JC_region ?_
    refine JL_pd rfl (det_move rfl) ?_
    refine JL_pd rfl (det_len rfl Try.runUnderlying22) ?_
    refine JL_pd rfl (det_move rfl) ?_
    refine JL_pd rfl (det_len rfl Try.runUnderlying50) ?_
    refine JL_pd rfl (det_eql rfl rfl) ?_
    refine JL_nil ?_
    refine JE_seq ?_
    -- stop: cond
    refine JC_if rfl (fun h1 => ?_) (fun h1 => ?_)
    · exact absurd h1 (by omega)
    refine JC_skip ?_
    refine JE_seq ?_
    refine JC_seq ?_
    refine JC_region ?_
    refine JL_pd rfl (det_assign rfl) ?_
    refine JL_nil ?_
    refine JE_seq ?_
    refine JC_seq ?_
    refine JC_region ?_
    refine JL_pd rfl (det_assign rfl) ?_
    refine JL_nil ?_
    refine JE_seq ?_
    refine JC_seq ?_
    refine JC_seq ?_
    refine JC_region ?_
    refine JL_pd rfl (det_assign rfl) ?_
    refine JL_nil ?_
    refine JE_seq ?_
    refine JC_block ?_
    -- stop: loop
    refine JC_keep b5 noFp ?_
    refine JC_loopK (γ := Nat × Loc) (fun q => q.1 ≤ M + 1) (fun q => [(12, I q.1), (10, .slice q.2.1 q.2.2.1 q.2.2.2), (11, .bool (pickB f q.1).isSome)]) (fun _ => []) (fun q => KBt (pickB f q.1) q.2) (fun q => M + 1 - q.1) (0, none, 0, 0) (Nat.zero_le _) (stsub_consI rfl rfl (stsub_cons rfl (stsub_cons rfl stsub_nil))) ht_nil (fun w _ b hb => by cases hb) ?_
    rintro ⟨i, ga, gn, gc⟩ hi K hK
    dsimp only [List.cons_append, List.nil_append] at hi ⊢
    refine JC_seq ?_
    refine JC_seq ?_
    refine JC_region ?_
    refine JL_pd rfl (det_move rfl) ?_
    refine JL_pd rfl (det_move rfl) ?_
    refine JL_pd rfl (det_move rfl) ?_
    refine JL_pd rfl (det_len rfl Try.runUnderlying22) ?_
    refine JL_dt rfl (det_indexAddr (i := bs.length) rfl rfl rfl hbl Try.runUnderlying50 Try.sizeOf54) ?_
    refine JL_pd rfl (det_fieldAddrE rfl fo_54_3) ?_
    refine JL_dt rfl (det_loadEk rfl (by first | assumption | omega | decide) Try.isAgg3 rfl rfl) ?_
    refine JL_pd rfl (det_leq rfl rfl) ?_
    refine JL_nil ?_
    refine JE_seq ?_
    -- stop: cond
    refine JC_if rfl (fun h2 => ?_) (fun h2 => ?_)
    · have hi2 : i ≤ M := by omega
      have hIH := fun ad cd => IH ad cd (bs ++ [(i : Int)]) (by rw [List.length_append]; simp only [List.length_cons, List.length_nil]; omega)
      have hsl : (bs ++ [(i : Int)]).length = 0 + bs.length + 1 := by rw [List.length_append]; simp
      simp only [hsl] at hIH
      rw [← hfj] at hIH
      refine JC_skip ?_
      refine JE_seq ?_
      refine JC_seq ?_
      refine JC_block ?_
      refine JC_seq ?_
      -- stop: draw
      refine JC_cutK (γ := Loc) (fun _ => True) (fun x51 => [(13, .slice x51.1 x51.2.1 x51.2.2), (14, .bool (f i).isSome)]) (fun x51 => []) (fun x51 => KBt (f i) x51) [] (fun K hK => ?_) (fun x51 _ => ?_)
      · refine JC_draw [] (by kernel_rfl) ?_
        refine JA_pd (i := 0) rfl (by kernel_rfl) rfl rfl (det_move rfl) ?_
        refine JA_dt (i := 1) rfl (by kernel_rfl) (by kernel_rfl) rfl rfl (det_loadKA rfl Try.isAgg52 Try.sizeOf52 rfl rfl) ?_
        refine JA_pd (i := 2) rfl (by kernel_rfl) rfl rfl (det_move rfl) ?_
        refine JA_pd (i := 4) rfl (by kernel_rfl) rfl rfl (det_move rfl) ?_
        refine JA_pd (i := 6) rfl (by kernel_rfl) rfl rfl (det_move rfl) ?_
        refine JA_ready (rs := [3, 7]) (by kernel_rfl) rfl ?_
        refine JAl_cons (i := 3) rfl rfl (jo_buildOwn (z := 1) rfl (bsl_22_0) rfl (by decide)) (fun _ => ⟨hsub_drop 1 rfl, fun _ h => h⟩) (fun b45 => ?_) ?_
        · refine JA_ready (rs := [5, 7]) (by kernel_rfl) rfl ?_
          refine JAl_consH (i := 5) rfl rfl (jo_appendK (e := encI) el_22 rfl rfl encI_one (by omega)) (fun _ => ⟨HIn.sub, Knows.know⟩) (fun b47 => ?_) ?_
          · refine JA_one (i := 7) (by kernel_rfl) rfl rfl (jo_buildSlice rfl (bsl_22_1_0 _)) (fun _ => ⟨hsub_drop 1 rfl, fun _ h => h⟩) fun b49 => ?_
            refine JA_oneH (i := 8) (by kernel_rfl) rfl rfl (jo_append el_22 rfl rfl rfl rfl (by omega)) (fun _ => ⟨HIn.sub, Knows.know⟩) fun b50 => ?_
            refine JA_slice (enc := encI) (v := .slice (some ⟨b50.1, 0, none⟩) (0 + bs.length + 1) b50.2) (bs ++ [(i : Int)]) noFp (by rw [List.flatMap_append]; rfl) (by rw [List.length_append]; simp) ?_
            rintro qa qc hqq
            obtain ⟨rfl, rfl⟩ : (some ⟨b50.1, 0, none⟩ : Option Addr) = qa ∧ b50.2 = qc := by simpa using hqq
            refine JA_one (i := 9) (by kernel_rfl) rfl rfl (jo_call rfl rfl Try.call46 rfl (hIH (some ⟨b50.1, 0, none⟩) b50.2)) (fun _ => ⟨hsub_drop 0 rfl, fun _ h => h.2⟩) fun x51 => ?_
            refine JA_pd (i := 10) rfl (by kernel_rfl) rfl rfl (det_move rfl) ?_
            refine JA_pd (i := 11) rfl (by kernel_rfl) rfl rfl (det_extract rfl rfl) ?_
            refine JA_pd (i := 12) rfl (by kernel_rfl) rfl rfl (det_extract rfl rfl) ?_
            refine JA_pd (i := 13) rfl (by kernel_rfl) rfl rfl (det_assign rfl) ?_
            refine JA_pd (i := 14) rfl (by kernel_rfl) rfl rfl (det_assign rfl) ?_
            refine JA_done (by kernel_rfl) ?_
            exact JE_cutK hK x51 trivial (stsub_cons rfl (stsub_cons rfl stsub_nil)) (ht_nil)
          refine JAl_cons (i := 7) rfl rfl (jo_buildSlice rfl (bsl_22_1_0 _)) (fun _ => ⟨hsub_drop 1 rfl, fun _ h => h⟩) (fun b49 => ?_) ?_
          · refine JA_oneH (i := 5) (by kernel_rfl) rfl rfl (jo_appendK (e := encI) el_22 rfl rfl encI_one (by omega)) (fun _ => ⟨HIn.sub, Knows.know⟩) fun b47 => ?_
            refine JA_oneH (i := 8) (by kernel_rfl) rfl rfl (jo_append el_22 rfl rfl rfl rfl (by omega)) (fun _ => ⟨HIn.sub, Knows.know⟩) fun b50 => ?_
            refine JA_slice (enc := encI) (v := .slice (some ⟨b50.1, 0, none⟩) (0 + bs.length + 1) b50.2) (bs ++ [(i : Int)]) noFp (by rw [List.flatMap_append]; rfl) (by rw [List.length_append]; simp) ?_
            rintro qa qc hqq
            obtain ⟨rfl, rfl⟩ : (some ⟨b50.1, 0, none⟩ : Option Addr) = qa ∧ b50.2 = qc := by simpa using hqq
            refine JA_one (i := 9) (by kernel_rfl) rfl rfl (jo_call rfl rfl Try.call46 rfl (hIH (some ⟨b50.1, 0, none⟩) b50.2)) (fun _ => ⟨hsub_drop 0 rfl, fun _ h => h.2⟩) fun x51 => ?_
            refine JA_pd (i := 10) rfl (by kernel_rfl) rfl rfl (det_move rfl) ?_
            refine JA_pd (i := 11) rfl (by kernel_rfl) rfl rfl (det_extract rfl rfl) ?_
            refine JA_pd (i := 12) rfl (by kernel_rfl) rfl rfl (det_extract rfl rfl) ?_
            refine JA_pd (i := 13) rfl (by kernel_rfl) rfl rfl (det_assign rfl) ?_
            refine JA_pd (i := 14) rfl (by kernel_rfl) rfl rfl (det_assign rfl) ?_
            refine JA_done (by kernel_rfl) ?_
            exact JE_cutK hK x51 trivial (stsub_cons rfl (stsub_cons rfl stsub_nil)) (ht_nil)
          exact JAl_nil
        refine JAl_cons (i := 7) rfl rfl (jo_buildSlice rfl (bsl_22_1_0 _)) (fun _ => ⟨hsub_drop 1 rfl, fun _ h => h⟩) (fun b49 => ?_) ?_
        · refine JA_one (i := 3) (by kernel_rfl) rfl rfl (jo_buildOwn (z := 1) rfl (bsl_22_0) rfl (by decide)) (fun _ => ⟨hsub_drop 1 rfl, fun _ h => h⟩) fun b45 => ?_
          refine JA_oneH (i := 5) (by kernel_rfl) rfl rfl (jo_appendK (e := encI) el_22 rfl rfl encI_one (by omega)) (fun _ => ⟨HIn.sub, Knows.know⟩) fun b47 => ?_
          refine JA_oneH (i := 8) (by kernel_rfl) rfl rfl (jo_append el_22 rfl rfl rfl rfl (by omega)) (fun _ => ⟨HIn.sub, Knows.know⟩) fun b50 => ?_
          refine JA_slice (enc := encI) (v := .slice (some ⟨b50.1, 0, none⟩) (0 + bs.length + 1) b50.2) (bs ++ [(i : Int)]) noFp (by rw [List.flatMap_append]; rfl) (by rw [List.length_append]; simp) ?_
          rintro qa qc hqq
          obtain ⟨rfl, rfl⟩ : (some ⟨b50.1, 0, none⟩ : Option Addr) = qa ∧ b50.2 = qc := by simpa using hqq
          refine JA_one (i := 9) (by kernel_rfl) rfl rfl (jo_call rfl rfl Try.call46 rfl (hIH (some ⟨b50.1, 0, none⟩) b50.2)) (fun _ => ⟨hsub_drop 0 rfl, fun _ h => h.2⟩) fun x51 => ?_
          refine JA_pd (i := 10) rfl (by kernel_rfl) rfl rfl (det_move rfl) ?_
          refine JA_pd (i := 11) rfl (by kernel_rfl) rfl rfl (det_extract rfl rfl) ?_
          refine JA_pd (i := 12) rfl (by kernel_rfl) rfl rfl (det_extract rfl rfl) ?_
          refine JA_pd (i := 13) rfl (by kernel_rfl) rfl rfl (det_assign rfl) ?_
          refine JA_pd (i := 14) rfl (by kernel_rfl) rfl rfl (det_assign rfl) ?_
          refine JA_done (by kernel_rfl) ?_
          exact JE_cutK hK x51 trivial (stsub_cons rfl (stsub_cons rfl stsub_nil)) (ht_nil)
        exact JAl_nil
      dsimp only [List.cons_append, List.nil_append]
      refine JC_seq ?_
      refine JC_region ?_
      refine JL_pd rfl (det_move rfl) ?_
      refine JL_pd rfl (det_move rfl) ?_
      -- stop: guard 1
      obtain ⟨xa, xn, xc⟩ := x51
      dsimp only
      cases hfi : f i with
      | none =>
        have hpn := pickB_no hfi
        refine JL_is (d0 := 55) false rfl (by rfl) (fun g1 => ?_)
        refine JL_skip rfl rfl g1 rfl ?_
        refine JL_skip rfl rfl g1 rfl ?_
        refine JL_skip rfl rfl g1 rfl ?_
        refine JL_skipU rfl rfl rfl ?_
        refine JL_skipU rfl rfl rfl ?_
        refine JL_skipU rfl rfl rfl ?_
        refine JL_skipU rfl rfl rfl ?_
        refine JL_skip rfl rfl g1 rfl ?_
        refine JL_pd rfl (det_pick_f rfl g1 rfl) ?_
        refine JL_nil ?_
        refine JE_seq ?_
        -- stop: cond
        refine JC_cond rfl (fun h4 => ?_) (fun h4 => ?_)
        · cases h4
        refine JC_skip ?_
        refine JE_block ?_
        refine JE_seq ?_
        refine JC_region ?_
        refine JL_pd rfl (det_move rfl) ?_
        refine JL_pd rfl (det_add rfl rfl ⟨by omega, by omega⟩) ?_
        refine JL_pd rfl (det_assign rfl) ?_
        refine JL_nil ?_
        -- stop: end
        refine JE_weak (R' := KAnd (KBt (pickB f (i + 1)) (ga, gn, gc)) _) stsub_refl hsub_refl (fun w h => ⟨by rw [hpn]; exact Knows.know (F := KBt (pickB f i) (ga, gn, gc)) w h, h⟩) ?_
        refine JE_roundF hK (i + 1, ga, gn, gc) (by simp only; omega) (by simp only; omega) (stsub_consI rfl (by simp only; omega) (stsub_cons rfl (stsub_consB rfl (by simp only; rw [hpn]) stsub_nil))) ht_nil
      | some b =>
        obtain ⟨hb1, hb2⟩ := hsnd i b hfi
        refine JL_pure (p := xn = b.list.length) (fun w h => (Knows.know (F := KBt (some b) (xa, xn, xc)) w h b rfl).1) fun hxn => ?_
        subst hxn
        refine JL_know (R' := KAnd (KSl xa b.list.length xc encI b.list) _) (fun w h => ⟨(Knows.know (F := KBt (some b) (xa, b.list.length, xc)) w h b rfl).2, h⟩) ?_
        refine JL_is (d0 := 55) true rfl (by rfl) (fun g1 => ?_)
        refine JL_guard rfl rfl g1 ?_
        refine JL_pd rfl (det_move rfl) ?_
        refine JL_guard rfl rfl g1 ?_
        refine JL_pd rfl (det_not rfl) ?_
        refine JL_guard rfl rfl g1 ?_
        refine JL_pd rfl (det_move rfl) ?_
        -- stop: guard 4
        cases hp : pickB f i with
        | none =>
          have hpn := pickB_first hfi hp
          refine JL_is (d0 := 58) true rfl (by rfl) (fun g2 => ?_)
          refine JL_skip rfl rfl g2 rfl ?_
          refine JL_skip rfl rfl g2 rfl ?_
          refine JL_skip rfl rfl g2 rfl ?_
          refine JL_skip rfl rfl g2 rfl ?_
          refine JL_guard rfl rfl g1 ?_
          refine JL_pd rfl (det_pick_t rfl g2 rfl) ?_
          refine JL_pd rfl (det_pick_t rfl g1 rfl) ?_
          refine JL_nil ?_
          refine JE_seq ?_
          -- stop: cond
          refine JC_cond rfl (fun h5 => ?_) (fun h5 => ?_)
          · refine JC_region ?_
            refine JL_pd rfl (det_move rfl) ?_
            refine JL_pd rfl (det_assign rfl) ?_
            refine JL_pd rfl (det_assign rfl) ?_
            refine JL_nil ?_
            refine JE_block ?_
            refine JE_seq ?_
            refine JC_region ?_
            refine JL_pd rfl (det_move rfl) ?_
            refine JL_pd rfl (det_add rfl rfl ⟨by omega, by omega⟩) ?_
            refine JL_pd rfl (det_assign rfl) ?_
            refine JL_nil ?_
            -- stop: end
            refine JE_weak (R' := KAnd (KBt (pickB f (i + 1)) (xa, b.list.length, xc)) _) stsub_refl hsub_refl (fun w h => ⟨fun b' e => by rw [hpn] at e; cases e; exact ⟨rfl, Knows.know (F := KSl xa b.list.length xc encI b.list) w h⟩, h⟩) ?_
            refine JE_roundF hK (i + 1, xa, b.list.length, xc) (by simp only; omega) (by simp only; omega) (stsub_consI rfl (by simp only; omega) (stsub_cons rfl (stsub_consB rfl (by simp only; rw [hpn]; rfl) stsub_nil))) ht_nil
          · cases h5
        | some cc =>
          obtain ⟨hc1, hc2⟩ := hpk i cc hp
          refine JL_pure (p := gn = cc.list.length) (fun w h => (Knows.know (F := KBt (some cc) (ga, gn, gc)) w h cc rfl).1) fun hgn => ?_
          subst hgn
          refine JL_know (R' := KAnd (KSl ga cc.list.length gc encI cc.list) _) (fun w h => ⟨(Knows.know (F := KBt (some cc) (ga, cc.list.length, gc)) w h cc rfl).2, h⟩) ?_
          refine JL_is (d0 := 58) false rfl (by rfl) (fun g2 => ?_)
          refine JL_guard rfl rfl g2 ?_
          refine JL_pd rfl (det_move rfl) ?_
          refine JL_guard rfl rfl g2 ?_
          refine JL_pd rfl (det_move rfl) ?_
          refine JL_guard rfl rfl g2 ?_
          refine JL_pd rfl (det_move rfl) ?_
          refine JL_guard rfl rfl g2 ?_
          -- stop: op  8 t62 := (call (Call (value f47) (t59 t60 t61) (50 22 22)))   <5 6 7 4 4>   105
          refine JL_step rfl rfl rfl (jo_callv rfl rfl Try.call47 rfl (Better_j a c ls at_ xa xc b.list ga gc cc.list hl hV hb1 hc1)) fun _ => ?_
          refine JL_guard rfl rfl g1 ?_
          refine JL_pd rfl (det_pick_f rfl g2 rfl) ?_
          refine JL_pd rfl (det_pick_t rfl g1 rfl) ?_
          refine JL_nil ?_
          refine JE_seq ?_
          -- stop: cond
          have hbt : betB ls b.list cc.list = decide (befV b cc < 0) := by unfold betB; rw [← hb2, ← hc2]
          rw [hbt]
          refine JC_if rfl (fun h5 => ?_) (fun h5 => ?_)
          · have hpn := pickB_lt hfi hp h5
            refine JC_region ?_
            refine JL_pd rfl (det_move rfl) ?_
            refine JL_pd rfl (det_assign rfl) ?_
            refine JL_pd rfl (det_assign rfl) ?_
            refine JL_nil ?_
            refine JE_block ?_
            refine JE_seq ?_
            refine JC_region ?_
            refine JL_pd rfl (det_move rfl) ?_
            refine JL_pd rfl (det_add rfl rfl ⟨by omega, by omega⟩) ?_
            refine JL_pd rfl (det_assign rfl) ?_
            refine JL_nil ?_
            -- stop: end
            refine JE_weak (R' := KAnd (KBt (pickB f (i + 1)) (xa, b.list.length, xc)) _) stsub_refl hsub_refl (fun w h => ⟨fun b' e => by rw [hpn] at e; cases e; exact ⟨rfl, Knows.know (F := KSl xa b.list.length xc encI b.list) w h⟩, h⟩) ?_
            refine JE_roundF hK (i + 1, xa, b.list.length, xc) (by simp only; omega) (by simp only; omega) (stsub_consI rfl (by simp only; omega) (stsub_cons rfl (stsub_consB rfl (by simp only; rw [hpn]; rfl) stsub_nil))) ht_nil
          · have hpn := pickB_ge hfi hp h5
            refine JC_skip ?_
            refine JE_block ?_
            refine JE_seq ?_
            refine JC_region ?_
            refine JL_pd rfl (det_move rfl) ?_
            refine JL_pd rfl (det_add rfl rfl ⟨by omega, by omega⟩) ?_
            refine JL_pd rfl (det_assign rfl) ?_
            refine JL_nil ?_
            -- stop: end
            refine JE_weak (R' := KAnd (KBt (pickB f (i + 1)) (ga, cc.list.length, gc)) _) stsub_refl hsub_refl (fun w h => ⟨fun b' e => by rw [hpn] at e; cases e; exact ⟨rfl, Knows.know (F := KSl ga cc.list.length gc encI cc.list) w h⟩, h⟩) ?_
            refine JE_roundF hK (i + 1, ga, cc.list.length, gc) (by simp only; omega) (by simp only; omega) (stsub_consI rfl (by simp only; omega) (stsub_cons rfl (stsub_consB rfl (by simp only; rw [hpn]) stsub_nil))) ht_nil
    · obtain rfl : i = M + 1 := by omega
      refine JC_exit ?_
      refine JE_seq_exit ?_
      refine JE_then_exit ?_
      refine JE_block_here ?_
      refine JE_seq ?_
      refine JC_seq ?_
      refine JC_region ?_
      refine JL_pd rfl (det_move rfl) ?_
      refine JL_pd rfl (det_move rfl) ?_
      refine JL_pd rfl (det_assign rfl) ?_
      refine JL_pd rfl (det_assign rfl) ?_
      refine JL_nil ?_
      refine JE_seq ?_
      refine JC_ret ?_
      -- stop: out
      refine JE_out (.inl rfl) (ga, gn, gc) (results2 Try.results46 (res_tmp rfl) (res_tmp rfl)) rfl (List.Perm.refl _) (fun w h => Knows.know (F := KBt (pickB f (M + 1)) (ga, gn, gc)) w h)
end Go.Proofs.Ytjbmkdbgobmclaa

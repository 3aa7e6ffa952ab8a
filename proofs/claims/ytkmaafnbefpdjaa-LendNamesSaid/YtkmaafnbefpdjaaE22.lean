/- Walks of lend: Marks. -/
import Derived.Test.YtkmaafnbefpdjaaB9
set_option linter.unusedSimpArgs false
set_option linter.unusedVariables false
namespace Go.Proofs.Ytkmaafnbefpdjaa
open Go.RowKit Go.Shelf

set_option maxRecDepth 100000 in
theorem between_j (b mb : Nat) (x : Hx) (ga : Option Addr) (gc : Nat) (xs : List Gx) (lo hi : Int) (hn : xs.length ≤ 1000) : Cv Try.prog 80 [pt b, I lo, I hi] (KAnd (KBox b (wkC x ga xs.length gc mb)) (KSl ga xs.length gc encG xs)) (I (btw (gs xs) lo hi)) := by
  unfold wkC
  have hb : btw (gs xs) lo hi = ((xs.countP fun y => decide (lo < y.g.fr) && decide (y.g.hi < hi) : Nat) : Int) := by unfold btw; rw [gs, countP_map']
  refine Cx_of Try.func80 rfl Try.ntmps80 rfl fun w0 M0 => ?_
  refine JC_seq ?_
  refine JC_region ?_
  refine JL_pd rfl (det_assign rfl) ?_
  refine JL_nil ?_
  refine JE_seq ?_
  refine JC_seq ?_
  refine JC_seq ?_
  refine JC_region ?_
  refine JL_pd rfl (det_move rfl) ?_
  refine JL_pd rfl (det_nilCheck rfl) ?_
  refine JL_pd rfl (det_fieldAddr rfl fo_113_1) ?_
  refine JL_dt rfl (det_loadK rfl Try.isAgg32 rfl) ?_
  refine JL_pd rfl (det_len rfl Try.runUnderlying32) ?_
  refine JL_pd rfl (det_move rfl) ?_
  refine JL_nil ?_
  refine JE_seq ?_
  refine JC_block ?_
  -- stop: loop
  refine JC_loopF (γ := Nat) (fun i => i ≤ xs.length) (fun i => [(14, I i), (6, I (((xs.take i).countP fun y => decide (lo < y.g.fr) && decide (y.g.hi < hi) : Nat) : Int))]) (fun _ => []) (fun i => xs.length - i) 0 (Nat.zero_le _) (stsub_consI rfl rfl (stsub_consI rfl rfl stsub_nil)) ht_nil ?_
  intro i hi' K hK
  dsimp only [List.cons_append, List.nil_append]
  have hcl : (xs.take i).countP (fun y => decide (lo < y.g.fr) && decide (y.g.hi < hi)) ≤ xs.length := Nat.le_trans List.countP_le_length (by rw [List.length_take]; omega)
  refine JC_seq ?_
  refine JC_region ?_
  refine JL_pd rfl (det_lss rfl rfl) ?_
  refine JL_nil ?_
  refine JE_seq ?_
  refine JC_seq ?_
  -- stop: cond
  refine JC_if rfl (fun h1 => ?_) (fun h1 => ?_)
  · have hi2 : i < xs.length := by omega
    have hs := countP_snoc (fun y : Gx => decide (lo < y.g.fr) && decide (y.g.hi < hi)) xs i hi2
    refine JC_skip ?_
    refine JE_seq ?_
    refine JC_seq ?_
    refine JC_block ?_
    refine JC_seq ?_
    refine JC_region ?_
    refine JL_dt rfl (det_indexAddr rfl rfl (by first | rfl | omega) (by first | assumption | omega | decide) Try.runUnderlying32 Try.sizeOf81) ?_
    refine JL_dt rfl (det_loadEA rfl (by first | assumption | omega | decide) Try.isAgg81 Try.sizeOf81 rfl rfl rfl) ?_
    refine JL_step rfl rfl rfl (jo_alloc0 Try.zeroValue81 rfl) fun b8 => ?_
    refine JL_step0 rfl rfl (jo_store rfl rfl rfl (by first | (simp only [splice_norm]; done) | (simp only [splice_norm]; rfl) | rfl) Try.sizeOf81 rfl rfl) fun _ => ?_
    refine JL_nil ?_
    refine JE_seq ?_
    refine JC_seq ?_
    refine JC_region ?_
    refine JL_pd rfl (det_move rfl) ?_
    refine JL_pd rfl (det_fieldAddr rfl fo_81_0) ?_
    refine JL_dt rfl (det_loadK rfl Try.isAgg3 rfl) ?_
    refine JL_pd rfl (det_lss rfl rfl) ?_
    refine JL_pd rfl (det_move rfl) ?_
    -- stop: guard 4
    refine JL_join1 6 28 (.bool (decide (lo < xs[i].g.fr) && decide (xs[i].g.hi < hi))) (fun hj => ?_) ?_
    · refine JL_split (d0 := 22) rfl (fun q1 => ?_) (fun q1 => ?_)
      · refine JL_guard rfl rfl q1 ?_
        refine JL_pd rfl (det_fieldAddr rfl fo_81_1) ?_
        refine JL_guard rfl rfl q1 ?_
        refine JL_pd rfl (det_fieldAddr rfl fo_79_1) ?_
        refine JL_guard rfl rfl q1 ?_
        refine JL_dt rfl (det_loadK rfl Try.isAgg3 rfl) ?_
        refine JL_guard rfl rfl q1 ?_
        refine JL_pd rfl (det_move rfl) ?_
        refine JL_guard rfl rfl q1 ?_
        refine JL_pd rfl (det_lss rfl rfl) ?_
        refine JL_pd rfl (det_pick_t rfl q1 rfl) ?_
        exact hj (by kernel_rfl) (stsub_consB rfl (by clear hj; first | rfl | (simp only [q1, Bool.and_true, Bool.true_and, Bool.false_and, Bool.and_false, Bool.or_true, Bool.true_or, Bool.or_false, Bool.false_or, Bool.not_true, Bool.not_false]; done) | (simp [q1]; done) | (simp at q1; done) | (simp [q1] <;> omega) | (exfalso; simp at q1; omega)) stsub_nil)
      · refine JL_skip rfl rfl q1 rfl ?_
        refine JL_skip rfl rfl q1 rfl ?_
        refine JL_skip rfl rfl q1 rfl ?_
        refine JL_skip rfl rfl q1 rfl ?_
        refine JL_skip rfl rfl q1 rfl ?_
        refine JL_pd rfl (det_pick_f rfl q1 rfl) ?_
        exact hj (by kernel_rfl) (stsub_consB rfl (by clear hj; first | rfl | (simp only [q1, Bool.and_true, Bool.true_and, Bool.false_and, Bool.and_false, Bool.or_true, Bool.true_or, Bool.or_false, Bool.false_or, Bool.not_true, Bool.not_false]; done) | (simp [q1]; done) | (simp at q1; done) | (simp [q1] <;> omega) | (exfalso; simp at q1; omega)) stsub_nil)
    refine JL_nil ?_
    refine JE_seq ?_
    -- stop: cond
    refine JC_cond rfl (fun h2 => ?_) (fun h2 => ?_)
    · refine JC_region ?_
      refine JL_pd rfl (det_move rfl) ?_
      refine JL_pd rfl (det_add rfl rfl ⟨by omega, by omega⟩) ?_
      refine JL_pd rfl (det_assign rfl) ?_
      refine JL_nil ?_
      refine JE_block ?_
      refine JE_seq ?_
      refine JC_region ?_
      refine JL_pd rfl (det_add rfl rfl ⟨by omega, by omega⟩) ?_
      refine JL_pd rfl (det_move rfl) ?_
      refine JL_nil ?_
      -- stop: end
      rw [if_pos h2] at hs
      refine JE_roundF hK (i + 1) (by omega) (by omega) (stsub_consI rfl (by omega) (stsub_consI rfl (by omega) stsub_nil)) ht_nil
    · refine JC_skip ?_
      refine JE_block ?_
      refine JE_seq ?_
      refine JC_region ?_
      refine JL_pd rfl (det_add rfl rfl ⟨by omega, by omega⟩) ?_
      refine JL_pd rfl (det_move rfl) ?_
      refine JL_nil ?_
      -- stop: end
      rw [if_neg (by rw [h2]; decide)] at hs
      refine JE_roundF hK (i + 1) (by omega) (by omega) (stsub_consI rfl (by omega) (stsub_consI rfl (by omega) stsub_nil)) ht_nil
  · refine JC_exit ?_
    refine JE_seq_exit ?_
    refine JE_then_exit ?_
    refine JE_block_here ?_
    refine JE_seq ?_
    refine JC_seq ?_
    refine JC_region ?_
    refine JL_pd rfl (det_move rfl) ?_
    refine JL_pd rfl (det_assign rfl) ?_
    refine JL_nil ?_
    refine JE_seq ?_
    refine JC_ret ?_
    -- stop: out
    obtain rfl : i = xs.length := by omega
    refine JE_out (.inl rfl) () (results1 Try.results80 (res_tmp rfl)) (by rw [hb, List.take_length]) (List.Perm.refl _) (fun _ _ => trivial)
set_option maxRecDepth 100000 in
theorem min_j (b : Nat) (x y : Int) : Cv Try.prog 99 [.slice (some ⟨b, 0, none⟩) 2 2] (KSl (some ⟨b, 0, none⟩) 2 2 encI [x, y]) (I (min x y)) := by
  refine Cx_of Try.func99 rfl Try.ntmps99 rfl fun w0 M0 => ?_
  refine JC_seq ?_
  refine JC_region ?_
  refine JL_pd rfl (det_assign rfl) ?_
  refine JL_nil ?_
  refine JE_seq ?_
  refine JC_seq ?_
  refine JC_seq ?_
  refine JC_region ?_
  refine JL_pd rfl (det_move rfl) ?_
  refine JL_pd rfl (det_len rfl Try.runUnderlying22) ?_
  refine JL_pd rfl (det_lss rfl rfl) ?_
  refine JL_nil ?_
  refine JE_seq ?_
  -- stop: cond
  refine JC_if rfl (fun h0 => ?_) (fun h0 => ?_)
  · exact absurd h0 (by decide)
  refine JC_skip ?_
  refine JE_seq ?_
  refine JC_seq ?_
  refine JC_region ?_
  refine JL_pd rfl (det_move rfl) ?_
  refine JL_dt rfl (det_indexAddr (i := 0) rfl rfl rfl (by decide) Try.runUnderlying22 Try.sizeOf3) ?_
  refine JL_dt rfl (det_loadE (n := 2) (i := 0) (xs := [x, y]) rfl (by decide) Try.isAgg3 rfl rfl) ?_
  refine JL_pd rfl (det_assign rfl) ?_
  refine JL_nil ?_
  refine JE_seq ?_
  refine JC_seq ?_
  refine JC_seq ?_
  refine JC_region ?_
  refine JL_pd rfl (det_assign rfl) ?_
  refine JL_nil ?_
  refine JE_seq ?_
  refine JC_block ?_
  -- stop: loop
  refine JC_loopF (γ := Nat) (fun i => i = 1 ∨ i = 2) (fun i => [(4, I i), (3, I (if i = 1 then x else min x y))]) (fun _ => []) (fun i => 2 - i) 1 (.inl rfl) (stsub_consI rfl rfl (stsub_consI rfl rfl stsub_nil)) ht_nil ?_
  intro i hi K hK
  dsimp only [List.cons_append, List.nil_append]
  refine JC_seq ?_
  refine JC_seq ?_
  refine JC_region ?_
  refine JL_pd rfl (det_move rfl) ?_
  refine JL_pd rfl (det_move rfl) ?_
  refine JL_pd rfl (det_len rfl Try.runUnderlying22) ?_
  refine JL_pd rfl (det_lss rfl rfl) ?_
  refine JL_nil ?_
  refine JE_seq ?_
  -- stop: cond
  refine JC_if rfl (fun h1 => ?_) (fun h1 => ?_)
  · obtain rfl : i = 1 := by omega
    rw [if_pos rfl]
    refine JC_skip ?_
    refine JE_seq ?_
    refine JC_seq ?_
    refine JC_block ?_
    refine JC_region ?_
    refine JL_pd rfl (det_move rfl) ?_
    refine JL_pd rfl (det_move rfl) ?_
    refine JL_pd rfl (det_move rfl) ?_
    refine JL_dt rfl (det_indexAddr rfl rfl (by first | rfl | omega) (by first | assumption | omega | decide) Try.runUnderlying22 Try.sizeOf3) ?_
    refine JL_dt rfl (det_loadE (n := 2) (i := 1) (xs := [x, y]) rfl (by decide) Try.isAgg3 rfl rfl) ?_
    refine JL_pd rfl (det_min rfl rfl) ?_
    refine JL_pd rfl (det_assign rfl) ?_
    refine JL_nil ?_
    refine JE_block ?_
    refine JE_seq ?_
    refine JC_region ?_
    refine JL_pd rfl (det_move rfl) ?_
    refine JL_pd rfl (det_add rfl rfl ⟨by omega, by omega⟩) ?_
    refine JL_pd rfl (det_assign rfl) ?_
    refine JL_nil ?_
    -- stop: end
    refine JE_roundF hK 2 (.inr rfl) (by omega) (stsub_consI rfl (by decide) (stsub_consI rfl rfl stsub_nil)) ht_nil
  · obtain rfl : i = 2 := by omega
    refine JC_exit ?_
    refine JE_seq_exit ?_
    refine JE_then_exit ?_
    refine JE_block_here ?_
    refine JE_seq ?_
    refine JC_seq ?_
    refine JC_region ?_
    refine JL_pd rfl (det_move rfl) ?_
    refine JL_pd rfl (det_assign rfl) ?_
    refine JL_nil ?_
    refine JE_seq ?_
    refine JC_ret ?_
    -- stop: out
    refine JE_out (.inl rfl) () (results1 Try.results99 (res_tmp rfl)) (by rw [if_neg (by decide)]) (List.Perm.refl _) (fun _ _ => trivial)
theorem least_j (b : Nat) (x y : Int) : Cv Try.prog 81 [.slice (some ⟨b, 0, none⟩) 2 2] (KSl (some ⟨b, 0, none⟩) 2 2 encI [x, y]) (I (min x y)) := by
  refine Cx_of Try.func81 rfl Try.ntmps81 rfl fun w0 M0 => ?_
  refine JC_seq ?_
  refine JC_region ?_
  refine JL_pd rfl (det_assign rfl) ?_
  refine JL_nil ?_
  refine JE_seq ?_
  refine JC_seq ?_
  refine JC_region ?_
  refine JL_pd rfl (det_move rfl) ?_
  refine JL_step rfl rfl rfl (jo_callv rfl rfl Try.call99 rfl (min_j b x y)) fun _ => ?_
  refine JL_pd rfl (det_assign rfl) ?_
  refine JL_nil ?_
  refine JE_seq ?_
  refine JC_ret ?_
  -- stop: out
  refine JE_out (.inl rfl) () (results1 Try.results81 (res_tmp rfl)) rfl (List.Perm.refl _) (fun _ _ => trivial)
theorem least_x (b : Nat) (x y : Int) : Cx Try.prog 81 [.slice (some ⟨b, 0, none⟩) 2 2] [bx b [I x, I y]] KTrue (fun _ : Unit => I (min x y)) (fun _ => [bx b [I x, I y]]) (fun _ => KTrue) :=
  Cx.lend (bx b [I x, I y]) ((least_j b x y).mono (fun w hw => KSl_of_box2 (xs := [x, y]) rfl rfl (by decide) hw.1) fun _ _ h => h)
theorem btw_bd (l : List Gr) (a b : Int) : 0 ≤ btw l a b ∧ btw l a b ≤ l.length := by
  unfold btw
  have := List.countP_le_length (p := fun g : Gr => decide (a < g.fr) && decide (g.hi < b)) (l := l)
  omega
theorem choV_bd {k : Int} (hk : 0 ≤ k) (l : List Gr) : ∀ (n : Nat) (m : Int), -1 ≤ m → m ≤ 30 → (30 - m).toNat ≤ n → 0 ≤ (choV k l m).1 ∧ (choV k l m).1 ≤ l.length
  | n, m, h1, h2, hn => by
    obtain ⟨s1, s2, _⟩ := choN_spec k l m (30 - m).toNat
    rw [← choV_eq k l h1 h2] at s1 s2
    have hb := btw_bd l m 31
    refine ⟨?_, by omega⟩
    rcases s1 with ⟨e, _⟩ | ⟨i, hi, _, e⟩
    · omega
    · cases n with
      | zero => omega
      | succ n =>
        have := choV_bd hk l n (m + 1 + i) (by omega) (by omega) (by omega)
        have := btw_bd l m (m + 1 + i)
        omega
theorem choN_bd {k : Int} (hk : 0 ≤ k) (l : List Gr) (m : Int) (h1 : -1 ≤ m) (j : Nat) (h2 : m + j ≤ 30) : 0 ≤ (choN k l m j).1 ∧ (choN k l m j).1 ≤ l.length := by
  obtain ⟨s1, s2, _⟩ := choN_spec k l m j
  have hb := btw_bd l m 31
  refine ⟨?_, by omega⟩
  rcases s1 with ⟨e, _⟩ | ⟨i, hi, _, e⟩
  · omega
  · have := choV_bd hk l 31 (m + 1 + i) (by omega) (by omega) (by omega)
    have := btw_bd l m (m + 1 + i)
    omega
def evCh (c : Int × Int) : Value := .agg #[I c.1, I c.2]
def GoodKn (k : Int) (l : List Gr) (kn : Int → Option (Int × Int)) : Prop := ∀ m c, kn m = some c → c = choV k l m
theorem GoodKn.upd' {k : Int} {l : List Gr} {kn : Int → Option (Int × Int)} (h : GoodKn k l kn) {m : Int} {c : Int × Int} (hc : c = choV k l m) : GoodKn k l (upd kn m c) := fun m' c' h' => by
  unfold upd at h'
  split at h'
  · rename_i e; subst e; cases h'; exact hc
  · exact h m' c' h'
set_option maxRecDepth 100000 in
set_option maxHeartbeats 1000000 in
theorem from_j (x : Hx) (ga : Option Addr) (gc : Nat) (xs : List Gx) (kb mm wp wb wm hb fb : Nat) (hl : 0 ≤ x.h.lanes ∧ x.h.lanes ≤ 5) (hn : xs.length ≤ 8) : ∀ (n : Nat) (m : Int) (kn : Int → Option (Int × Int)), -1 ≤ m → m ≤ 30 → (30 - m).toNat = n → GoodKn x.h.lanes (gs xs) kn →
    Cx Try.prog 79 [I m, pt kb, pt wp, pt hb, pt fb] [mp mm ekI evCh kn] (KAnd (KBox kb [.map (some mm)]) (KAnd (KBox wp [pt wb]) (KAnd (KBox hb [I x.h.lanes, .slice x.a x.h.shoes.length x.c]) (KAnd (KBox fb [.func (.func 79) #[] #[pt kb, pt wp, pt hb, pt fb]]) (KAnd (KBox wb (wkC x ga xs.length gc wm)) (KSl ga xs.length gc encG xs))))))
      (fun _ : { kn' // GoodKn x.h.lanes (gs xs) kn' } => .agg #[I (choV x.h.lanes (gs xs) m).1, I (choV x.h.lanes (gs xs) m).2]) (fun q => [mp mm ekI evCh q.1]) (fun _ => KTrue) := by
  intro n
  induction n using Nat.strongRecOn
  rename_i n IH
  intro m kn hm1 hm2 hmn hg
  have hgl : (gs xs).length = xs.length := List.length_map _
  cases hkm : kn m with
  | some c =>
    have hc := hg m c hkm
    subst hc
    refine Cx_of Try.func79 rfl Try.ntmps79 rfl fun w0 M0 => ?_
    refine JC_seq ?_
    refine JC_region ?_
    refine JL_step rfl rfl rfl (jo_alloc0 Try.zeroValue105 rfl) fun b6 => ?_
    refine JL_nil ?_
    refine JE_seq ?_
    refine JC_seq ?_
    refine JC_seq ?_
    refine JC_region ?_
    refine JL_dt rfl (det_loadK rfl Try.isAgg102 rfl) ?_
    refine JL_pd rfl (det_move rfl) ?_
    refine JL_dt rfl (det_lookup2S (ek := ekI) (ev := evCh) (key := m) hkm rfl rfl (goodI Try.underlying3) Try.underlying102 Try.zeroValue105) ?_
    refine JL_pd rfl (det_move rfl) ?_
    refine JL_pd rfl (det_extract rfl rfl) ?_
    refine JL_pd rfl (det_extract rfl rfl) ?_
    refine JL_step rfl rfl rfl (jo_alloc0 Try.zeroValue105 rfl) fun b7 => ?_
    refine JL_step0 rfl rfl (jo_store rfl rfl rfl (by first | (simp only [splice_norm]; done) | (simp only [splice_norm]; rfl) | rfl) Try.sizeOf105 rfl rfl) fun _ => ?_
    refine JL_pd rfl (det_assign rfl) ?_
    refine JL_nil ?_
    refine JE_seq ?_
    refine JC_seq ?_
    refine JC_region ?_
    refine JL_pd rfl (det_move rfl) ?_
    refine JL_nil ?_
    refine JE_seq ?_
    -- stop: cond
    refine JC_cond rfl (fun h1 => ?_) (fun h1 => ?_)
    · refine JC_seq ?_
      refine JC_region ?_
      refine JL_dt rfl (det_loadKA rfl Try.isAgg105 Try.sizeOf105 rfl rfl) ?_
      refine JL_step0 rfl rfl (jo_store rfl rfl rfl (by first | (simp only [splice_norm]; done) | (simp only [splice_norm]; rfl) | rfl) Try.sizeOf105 rfl rfl) fun _ => ?_
      refine JL_nil ?_
      refine JE_seq ?_
      refine JC_ret ?_
      refine JE_seq_ret ?_
      -- stop: out
      refine JE_out (.inl rfl) ⟨kn, hg⟩ (results1 Try.results79 (res_box rfl Try.isAgg105 Try.sizeOf105 rfl)) rfl pick_perm (fun _ _ => trivial)
    · cases h1
  | none =>
    refine Cx_of Try.func79 rfl Try.ntmps79 rfl fun w0 M0 => ?_
    refine JC_seq ?_
    refine JC_region ?_
    refine JL_step rfl rfl rfl (jo_alloc0 Try.zeroValue105 rfl) fun b6 => ?_
    refine JL_nil ?_
    refine JE_seq ?_
    refine JC_seq ?_
    refine JC_seq ?_
    refine JC_region ?_
    refine JL_dt rfl (det_loadK rfl Try.isAgg102 rfl) ?_
    refine JL_pd rfl (det_move rfl) ?_
    refine JL_dt rfl (det_lookup2N (ek := ekI) (ev := evCh) (key := m) hkm rfl rfl (goodI Try.underlying3) Try.underlying102 Try.zeroValue105) ?_
    refine JL_pd rfl (det_move rfl) ?_
    refine JL_pd rfl (det_extract rfl rfl) ?_
    refine JL_pd rfl (det_extract rfl rfl) ?_
    refine JL_step rfl rfl rfl (jo_alloc0 Try.zeroValue105 rfl) fun b7 => ?_
    refine JL_step0 rfl rfl (jo_store rfl rfl rfl (by first | (simp only [splice_norm]; done) | (simp only [splice_norm]; rfl) | rfl) Try.sizeOf105 rfl rfl) fun _ => ?_
    refine JL_pd rfl (det_assign rfl) ?_
    refine JL_nil ?_
    refine JE_seq ?_
    refine JC_seq ?_
    refine JC_region ?_
    refine JL_pd rfl (det_move rfl) ?_
    refine JL_nil ?_
    refine JE_seq ?_
    -- stop: cond
    refine JC_cond rfl (fun h1 => ?_) (fun h1 => ?_)
    · cases h1
    refine JC_skip ?_
    refine JE_seq ?_
    refine JC_seq ?_
    refine JC_region ?_
    refine JL_dt rfl (det_loadK rfl Try.isAgg84 rfl) ?_
    refine JL_pd rfl (det_move rfl) ?_
    refine JL_step rfl rfl rfl (jo_callv rfl rfl Try.call80 rfl (between_j wb wm x ga gc xs _ _ (by omega))) fun _ => ?_
    refine JL_pd rfl (det_build rfl (bld_105_0_1 _ _)) ?_
    refine JL_step rfl rfl rfl (jo_alloc0 Try.zeroValue105 rfl) fun b9 => ?_
    refine JL_step0 rfl rfl (jo_store rfl rfl rfl (by first | (simp only [splice_norm]; done) | (simp only [splice_norm]; rfl) | rfl) Try.sizeOf105 rfl rfl) fun _ => ?_
    refine JL_nil ?_
    refine JE_seq ?_
    refine JC_seq ?_
    refine JC_seq ?_
    refine JC_region ?_
    refine JL_pd rfl (det_move rfl) ?_
    refine JL_pd rfl (det_add rfl rfl ⟨by omega, by omega⟩) ?_
    refine JL_pd rfl (det_assign rfl) ?_
    refine JL_nil ?_
    refine JE_seq ?_
    refine JC_block ?_
    -- stop: loop
    refine JC_loopF (γ := Nat × { kn' // GoodKn x.h.lanes (gs xs) kn' }) (fun q => q.1 ≤ (30 - m).toNat) (fun q => [(10, I (m + 1 + q.1))]) (fun q => [bx b9 [I (choN x.h.lanes (gs xs) m q.1).1, I (choN x.h.lanes (gs xs) m q.1).2], mp mm ekI evCh q.2.1]) (fun q => (30 - m).toNat - q.1) (0, ⟨kn, hg⟩) (Nat.zero_le _) (stsub_consI rfl (by simp) stsub_nil) (ht_bx rfl (ht_cons ht_nil)) ?_
    rintro ⟨j, kn2, hg2⟩ hj K hK
    dsimp only [List.cons_append, List.nil_append] at hj ⊢
    refine JC_seq ?_
    refine JC_seq ?_
    refine JC_region ?_
    refine JL_pd rfl (det_move rfl) ?_
    refine JL_pd rfl (det_lss rfl rfl) ?_
    refine JL_nil ?_
    refine JE_seq ?_
    -- stop: cond
    refine JC_if rfl (fun h2 => ?_) (fun h2 => ?_)
    · have hj2 : m + 1 + j ≤ 30 := by omega
      have hbd := choV_bd hl.1 (gs xs) 31 (m + 1 + j) (by omega) hj2 (by omega)
      have hbn := choN_bd hl.1 (gs xs) m hm1 j (by omega)
      have hbt := btw_bd (gs xs) m (m + 1 + j)
      refine JC_skip ?_
      refine JE_seq ?_
      refine JC_seq ?_
      refine JC_block ?_
      refine JC_seq ?_
      refine JC_draw0 (by kernel_rfl) ?_
      refine JA_dt (i := 0) rfl (by kernel_rfl) (by kernel_rfl) rfl rfl (det_loadK rfl Try.isAgg84 rfl) ?_
      refine JA_pd (i := 1) rfl (by kernel_rfl) rfl rfl (det_move rfl) ?_
      refine JA_pd (i := 2) rfl (by kernel_rfl) rfl rfl (det_move rfl) ?_
      refine JA_pd (i := 4) rfl (by kernel_rfl) rfl rfl (det_fieldAddr rfl fo_30_0) ?_
      refine JA_dt (i := 5) rfl (by kernel_rfl) (by kernel_rfl) rfl rfl (det_loadK rfl Try.isAgg3 rfl) ?_
      refine JA_dt (i := 7) rfl (by kernel_rfl) (by kernel_rfl) rfl rfl (det_loadK rfl Try.isAgg103 rfl) ?_
      refine JA_pd (i := 8) rfl (by kernel_rfl) rfl rfl (det_move rfl) ?_
      refine JA_oneH (i := 3) (by kernel_rfl) rfl rfl (jo_callv rfl rfl Try.call80 rfl (between_j wb wm x ga gc xs _ _ (by omega))) (fun _ => ⟨HIn.sub, Knows.know⟩) fun _ => ?_
      refine JA_pd (i := 6) rfl (by kernel_rfl) rfl rfl (det_add rfl rfl ⟨by omega, by omega⟩) ?_
      -- stop: op  9 t39 := (call (Call (value t37) (t38) (3)))   <7 8 3>   256
      refine JA_oneH (i := 9) (by kernel_rfl) rfl rfl (jo_callx rfl rfl Try.call79 rfl (IH (30 - (m + 1 + j)).toNat (by omega) (m + 1 + j) kn2 (by omega) hj2 rfl hg2) (pick_perm)) (fun _ => ⟨HIn.sub, Knows.know⟩) fun q => ?_
      refine JA_pd (i := 10) rfl (by kernel_rfl) rfl rfl (det_field rfl (fld_105_0 _ _)) ?_
      refine JA_pd (i := 11) rfl (by kernel_rfl) rfl rfl (det_add rfl rfl ⟨by omega, by omega⟩) ?_
      refine JA_pd (i := 12) rfl (by kernel_rfl) rfl rfl (det_assign rfl) ?_
      refine JA_done (by kernel_rfl) ?_
      refine JE_seq ?_
      refine JC_seq ?_
      refine JC_region ?_
      refine JL_pd rfl (det_move rfl) ?_
      refine JL_pd rfl (det_move rfl) ?_
      refine JL_pd rfl (det_fieldAddr rfl fo_105_0) ?_
      refine JL_dt rfl (det_loadK rfl Try.isAgg3 rfl) ?_
      refine JL_pd rfl (det_sub rfl rfl ⟨by omega, by omega⟩) ?_
      refine JL_step rfl rfl rfl (jo_buildSlice rfl (bsl_22_2_0_1 _ _)) fun b47 => ?_
      refine JL_step rfl rfl rfl (jo_callx rfl rfl Try.call81 rfl (least_x b47 (btw (gs xs) m (m + 1 + j) + x.h.lanes + (choV x.h.lanes (gs xs) (m + 1 + j)).1) ((choN x.h.lanes (gs xs) m j).1 - 1)) (pick_perm)) fun x48 => ?_
      refine JL_pd rfl (det_eql rfl rfl) ?_
      refine JL_nil ?_
      refine JE_seq ?_
      -- stop: cond
      refine JC_if rfl (fun h3 => ?_) (fun h3 => ?_)
      · have hcn : choN x.h.lanes (gs xs) m (j + 1) = (btw (gs xs) m (m + 1 + j) + x.h.lanes + (choV x.h.lanes (gs xs) (m + 1 + j)).1, m + 1 + j) := by
          conv => lhs; unfold choN
          rw [if_pos (by omega)]
        refine JC_region ?_
        refine JL_pd rfl (det_move rfl) ?_
        refine JL_pd rfl (det_move rfl) ?_
        refine JL_pd rfl (det_build rfl (bld_105_0_1 _ _)) ?_
        refine JL_step0 rfl rfl (jo_store rfl rfl rfl (by first | (simp only [splice_norm]; done) | (simp only [splice_norm]; rfl) | rfl) Try.sizeOf105 rfl rfl) fun _ => ?_
        refine JL_nil ?_
        refine JE_block ?_
        refine JE_seq ?_
        refine JC_region ?_
        refine JL_pd rfl (det_move rfl) ?_
        refine JL_pd rfl (det_add rfl rfl ⟨by omega, by omega⟩) ?_
        refine JL_pd rfl (det_assign rfl) ?_
        refine JL_nil ?_
        -- stop: end
        refine JE_roundF hK (j + 1, q) (by simp only; omega) (by simp only; omega) (stsub_consI rfl (by simp only; omega) stsub_nil) (ht_bx (by simp only; rw [hcn]) (ht_cons ht_nil))
      · have hcn : choN x.h.lanes (gs xs) m (j + 1) = choN x.h.lanes (gs xs) m j := by
          conv => lhs; unfold choN
          rw [if_neg (by omega)]
        refine JC_skip ?_
        refine JE_block ?_
        refine JE_seq ?_
        refine JC_region ?_
        refine JL_pd rfl (det_move rfl) ?_
        refine JL_pd rfl (det_add rfl rfl ⟨by omega, by omega⟩) ?_
        refine JL_pd rfl (det_assign rfl) ?_
        refine JL_nil ?_
        -- stop: end
        refine JE_roundF hK (j + 1, q) (by simp only; omega) (by simp only; omega) (stsub_consI rfl (by simp only; omega) stsub_nil) (ht_bx (by simp only; rw [hcn]) (ht_cons ht_nil))
    · have hj2 : j = (30 - m).toNat := by omega
      have hch := choV_eq x.h.lanes (gs xs) hm1 hm2
      subst hj2
      rw [← hch]
      refine JC_exit ?_
      refine JE_seq_exit ?_
      refine JE_then_exit ?_
      refine JE_block_here ?_
      refine JE_seq ?_
      refine JC_seq ?_
      refine JC_region ?_
      refine JL_dt rfl (det_loadK rfl Try.isAgg102 rfl) ?_
      refine JL_pd rfl (det_move rfl) ?_
      refine JL_dt rfl (det_loadKA rfl Try.isAgg105 Try.sizeOf105 rfl rfl) ?_
      refine JL_step0 rfl rfl (jo_mapUpdate (ek := ekI) (ev := evCh) m (choV x.h.lanes (gs xs) m) (.inl rfl) rfl rfl rfl (goodI Try.underlying3) Try.underlying102) fun _ => ?_
      refine JL_nil ?_
      refine JE_seq ?_
      refine JC_seq ?_
      refine JC_region ?_
      refine JL_dt rfl (det_loadKA rfl Try.isAgg105 Try.sizeOf105 rfl rfl) ?_
      refine JL_step0 rfl rfl (jo_store rfl rfl rfl (by first | (simp only [splice_norm]; done) | (simp only [splice_norm]; rfl) | rfl) Try.sizeOf105 rfl rfl) fun _ => ?_
      refine JL_nil ?_
      refine JE_seq ?_
      refine JC_ret ?_
      -- stop: out
      refine JE_out (.inl rfl) ⟨upd kn2 m (choV x.h.lanes (gs xs) m), hg2.upd' rfl⟩ (results1 Try.results79 (res_box rfl Try.isAgg105 Try.sizeOf105 rfl)) rfl pick_perm (fun _ _ => trivial)
end Go.Proofs.Ytkmaafnbefpdjaa

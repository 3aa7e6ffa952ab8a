/- The locks that forbid something, and the choices among them (plain); the reference's Candidates. -/
import Derived.Test.YtgbfjcgjcnndpaaC42
import Derived.Test.YtgbfjcgjcnndpaaJ23
set_option linter.unusedSimpArgs false
set_option linter.unusedVariables false
namespace Go.Proofs.Ytgbfjcgjcnndpaa
open Go.RowKit Go.Shelf

/-- A lock that can forbid something. -/
def cnB (m : Mc) (l : Lk) : Bool := if l.sg ≤ 5 then (m.steps.any fun s => decide (s.sg = l.sg)) && decide (l.at_ < 3) else decide (l.at_ < m.states)
def candN (m : Mc) (n : Nat) : List Lk := ((List.range n).map lk64).filter (cnB m)
theorem candN_succ (m : Mc) (n : Nat) : candN m (n + 1) = candN m n ++ (if cnB m (lk64 n) = true then [lk64 n] else []) := by
  unfold candN
  rw [List.range_succ, List.map_append, List.filter_append, List.map_cons, List.map_nil, List.filter_cons, List.filter_nil]
theorem candN_len (m : Mc) (n : Nat) : (candN m n).length ≤ n := by
  unfold candN; exact Nat.le_trans (List.length_filter_le _ _) (by simp)
theorem candN_const (m : Mc) (a b : Nat) (hab : a ≤ b) (h : ∀ j, a ≤ j → j < b → cnB m (lk64 j) = false) : candN m b = candN m a := by
  induction b with
  | zero => rw [show a = 0 by omega]
  | succ b ih =>
    by_cases e : a = b + 1
    · rw [e]
    · rw [candN_succ, if_neg (by rw [h b (by omega) (by omega)]; exact Bool.false_ne_true), List.append_nil]
      exact ih (by omega) fun j h1 h2 => h j h1 (by omega)
def candL (m : Mc) : List Lk := candN m 64
theorem lk64_at (g j : Nat) (hj : j < 8) : lk64 (g * 8 + j) = ⟨(g : Int), (j : Int)⟩ := by
  unfold lk64
  rw [show (g * 8 + j) / 8 = g by omega, show (g * 8 + j) % 8 = j by omega]
/-- The choice by the bits of a number, of the first ones. -/
def subN (all : List Lk) (s : Nat) : Nat → List Lk
  | 0 => []
  | i + 1 => subN all s i ++ (if s.testBit i = true then (all[i]?).toList else [])
theorem subN_len (all : List Lk) (s : Nat) : ∀ i, (subN all s i).length ≤ i
  | 0 => Nat.le_refl _
  | i + 1 => by
    have := subN_len all s i
    rw [subN, List.length_append]
    have h1 : (if s.testBit i = true then (all[i]?).toList else []).length ≤ 1 := by
      split
      · cases all[i]? <;> simp
      · simp
    omega
theorem subN_congr (all : List Lk) {s s' : Nat} : ∀ i, (∀ j, j < i → s.testBit j = s'.testBit j) → subN all s i = subN all s' i
  | 0, _ => rfl
  | i + 1, h => by rw [subN, subN, subN_congr all i fun j hj => h j (by omega), h i (by omega)]
theorem subN_sub (all : List Lk) (s : Nat) : ∀ i, (subN all s i).Sublist (all.take i)
  | 0 => by simp [subN]
  | i + 1 => by
    rw [subN, List.take_add_one]
    refine (subN_sub all s i).append ?_
    split
    · exact List.Sublist.refl _
    · exact List.nil_sublist _
theorem subN_all (all : List Lk) : ∀ i, i ≤ all.length → ∀ l : List Lk, l.Sublist (all.take i) → ∃ s, s < 2 ^ i ∧ subN all s i = l
  | 0, _, l, h => ⟨0, by simp, by
    rw [List.take_zero] at h
    rw [List.sublist_nil.1 h]; rfl⟩
  | i + 1, hi, l, h => by
    rw [List.take_add_one, List.sublist_append_iff] at h
    obtain ⟨l1, l2, rfl, h1, h2⟩ := h
    obtain ⟨s, hs, he⟩ := subN_all all i (by omega) l1 h1
    have hp : 2 ^ (i + 1) = 2 ^ i + 2 ^ i := by rw [Nat.pow_succ]; omega
    have hget : all[i]? = some all[i] := List.getElem?_eq_getElem (by omega)
    rw [hget] at h2
    have h3 : l2 = [] ∨ l2 = [all[i]] := by
      cases l2 with
      | nil => exact .inl rfl
      | cons x t =>
        right
        have hl := h2.length_le
        have : t = [] := by
          cases t with
          | nil => rfl
          | cons y t => simp at hl
        subst this
        have := h2.subset (List.mem_singleton.2 rfl)
        simp only [Option.toList, List.mem_singleton] at this
        rw [this]
    rcases h3 with rfl | rfl
    · refine ⟨s, by omega, ?_⟩
      rw [subN, if_neg (by rw [Nat.testBit_lt_two_pow hs]; exact Bool.false_ne_true), he]
    · refine ⟨2 ^ i + s, by omega, ?_⟩
      rw [subN, if_pos (by rw [Nat.testBit_two_pow_add_eq, Nat.testBit_lt_two_pow hs]; rfl), hget, subN_congr (s' := s) all i fun j hj => Nat.testBit_two_pow_add_gt hj s, he]
      rfl
theorem candL_sorted (m : Mc) : (candL m).Pairwise fun x y => lessLk x y = true := lk64_sorted.filter _
theorem need_cn {m : Mc} (V : Valid m) {l : Lk} (h : needB m l = true) : cnB m l = true := by
  obtain ⟨s, hs, g, hg, _, rfl, t, ht, _⟩ := needB_iff.1 h
  obtain ⟨a, b, c, d⟩ := ((mem_reachL V).1 hs).inM V
  unfold lockAt cnB
  by_cases h6 : (g : Int) = 6 ∨ (g : Int) = 7
  · rw [if_pos h6, if_neg (by show ¬ (g : Int) ≤ 5; omega)]; exact decide_eq_true b
  · rw [if_neg h6, if_pos (by show (g : Int) ≤ 5; omega), Bool.and_eq_true]
    refine ⟨?_, decide_eq_true (by show s.sp < 3; omega)⟩
    unfold moves at ht
    rw [if_neg (fun e => h6 (.inl e)), if_neg (fun e => h6 (.inr e))] at ht
    simp only [stepTo, List.mem_map, List.mem_filter, Bool.and_eq_true, decide_eq_true_eq] at ht
    obtain ⟨x, ⟨hx, _, he⟩, _⟩ := ht
    exact List.any_eq_true.2 ⟨x, hx, decide_eq_true he⟩
theorem due_sub {m : Mc} (V : Valid m) : (dueL m).Sublist (candL m) := by
  have : dueL m = (candL m).filter (needB m) := by
    unfold dueL candL candN
    rw [List.filter_filter]
    refine List.filter_congr fun l _ => ?_
    cases h : needB m l with
    | false => rfl
    | true => rw [need_cn V h]; rfl
  rw [this]
  exact List.filter_sublist
/-- What the search knows, when some choices are tried. -/
structure FwI (m : Mc) (all : List Lk) (k : Nat) (best : List Lk) (found : Bool) : Prop where
  sub : best.Sublist all
  no : found = false → best = [] ∧ ∀ s, s < k → serveB m (subN all s all.length) = false
  yes : found = true → serveB m best = true ∧ ∀ s, s < k → serveB m (subN all s all.length) = true → best.length ≤ (subN all s all.length).length
theorem FwI.zero (m : Mc) (all : List Lk) : FwI m all 0 [] false := ⟨List.nil_sublist _, fun _ => ⟨rfl, fun s h => absurd h (Nat.not_lt_zero _)⟩, fun h => by cases h⟩
theorem FwI.keep {m : Mc} {all : List Lk} {k : Nat} {best : List Lk} {found : Bool} (h : FwI m all k best found) (hn : serveB m (subN all k all.length) = false ∨ (found = true ∧ best.length ≤ (subN all k all.length).length)) : FwI m all (k + 1) best found := by
  refine ⟨h.sub, fun hf => ?_, fun hf => ?_⟩
  · obtain ⟨h1, h2⟩ := h.no hf
    refine ⟨h1, fun s hs => ?_⟩
    by_cases e : s = k
    · subst e
      rcases hn with hn | ⟨hn, _⟩
      · exact hn
      · rw [hf] at hn; cases hn
    · exact h2 s (by omega)
  · obtain ⟨h1, h2⟩ := h.yes hf
    refine ⟨h1, fun s hs hv => ?_⟩
    by_cases e : s = k
    · subst e
      rcases hn with hn | ⟨_, hn⟩
      · rw [hn] at hv; cases hv
      · exact hn
    · exact h2 s (by omega) hv
theorem FwI.take {m : Mc} {all : List Lk} {k : Nat} {best : List Lk} {found : Bool} (h : FwI m all k best found) (hv : serveB m (subN all k all.length) = true) (hl : found = false ∨ (subN all k all.length).length < best.length) : FwI m all (k + 1) (subN all k all.length) true := by
  have hs := subN_sub all k all.length
  rw [List.take_length] at hs
  refine ⟨hs, fun hf => (by cases hf), fun _ => ⟨hv, fun s hs hsv => ?_⟩⟩
  by_cases e : s = k
  · subst e; exact Nat.le_refl _
  · cases found with
    | false => rw [(h.no rfl).2 s (by omega)] at hsv; cases hsv
    | true =>
      have := (h.yes rfl).2 s (by omega) hsv
      rcases hl with hl | hl
      · cases hl
      · omega
theorem FwI.done {m : Mc} (he : fault m = 0) {best : List Lk} {found : Bool} (h : FwI m (candL m) (2 ^ (candL m).length) best found) : best = locksR m ∧ found = decide (locksE m = 0) := by
  have V := valid_of he
  have hD : locksE m = 0 → locksR m = dueL m := fun h0 => by
    cases hs : sameW (rchW m (dueL m)) (dueW m) with
    | true => exact (locksR_t hs).1
    | false => rw [(locksR_f hs).2] at h0; cases h0
  have hex : locksE m = 0 → ∃ s, s < 2 ^ (candL m).length ∧ subN (candL m) s (candL m).length = locksR m := fun h0 => by
    rw [hD h0]
    exact subN_all (candL m) _ (Nat.le_refl _) _ (by rw [List.take_length]; exact due_sub V)
  rcases fewest he with ⟨e1, e2, e3⟩ | ⟨e1, F⟩
  · cases found with
    | false => rw [e1, e2]; exact ⟨(h.no rfl).1, rfl⟩
    | true => have := (h.yes rfl).1; rw [e3] at this; cases this
  · obtain ⟨s, hs, hse⟩ := hex e1
    have hok := F.ok
    cases found with
    | false =>
      have := (h.no rfl).2 s hs
      rw [hse, hok] at this; cases this
    | true =>
      refine ⟨?_, by rw [e1]; rfl⟩
      obtain ⟨h1, h2⟩ := h.yes rfl
      have h3 := h2 s hs (by rw [hse]; exact hok)
      rw [hse] at h3
      have hDs : (locksR m).Pairwise fun x y => lessLk x y = true := by rw [hD e1]; exact dueL_sorted m
      have hbs : best.Pairwise fun x y => lessLk x y = true := (candL_sorted m).sublist h.sub
      refine sorted_eq hbs hDs fun x => ⟨fun hx => ?_, fun hx => F.need x hx best h1⟩
      apply Classical.byContradiction
      intro hno
      have := nodup_len (l := x :: locksR m) (l' := best) (List.nodup_cons.2 ⟨hno, sorted_nodup hDs⟩) fun y hy => by
        rcases List.mem_cons.1 hy with rfl | hy
        · exact hx
        · exact F.need y hy best h1
      simp only [List.length_cons] at this
      omega
set_option maxRecDepth 100000 in
theorem Candidates_j (m : Mc) (a : MA) (V : Valid m) : Cr Try.prog 31 [.agg #[I m.states, .slice a.sa m.steps.length a.sc, .slice a.ra m.running.length a.rc, .slice a.ka m.locks.length a.kc]] (KMc m a) (fun q : Option Addr × Nat => .slice q.1 (candL m).length q.2) (fun q => KSl q.1 (candL m).length q.2 encLk (candL m)) := by
  have hl1 := V.ns; have s1 := V.s1; have s2 := V.s2
  refine Cx_of Try.func31 rfl Try.ntmps31 rfl fun w0 M0 => ?_
  refine JC_seq ?_
  refine JC_region ?_
  refine JL_step rfl rfl rfl (jo_box rfl rfl) fun b1 => ?_
  refine JL_pd rfl (det_assign rfl) ?_
  refine JL_nil ?_
  refine JE_seq ?_
  refine JC_seq ?_
  refine JC_region ?_
  refine JL_pd rfl (det_assign rfl) ?_
  refine JL_nil ?_
  refine JE_seq ?_
  refine JC_seq ?_
  refine JC_seq ?_
  refine JC_region ?_
  refine JL_pd rfl (det_assign rfl) ?_
  refine JL_nil ?_
  refine JE_seq ?_
  refine JC_block ?_
  -- stop: loop
  refine JC_keep b1 noFp ?_
  refine JC_nil 63 2 ?_
  refine JC_loopF (γ := Nat × Value) (fun q => q.1 ≤ 6) (fun q => [(4, I q.1), (3, q.2)]) (fun q => [ow q.2 63 2 (candN m (q.1 * 8)).length ((candN m (q.1 * 8)).flatMap encLk)]) (fun q => 6 - q.1) (0, .slice none 0 0) (by simp) (stsub_consI rfl rfl (stsub_cons rfl stsub_nil)) (show HTake _ [ow (.slice none 0 0) 63 2 0 []] _ from ht_cons ht_nil) ?_
  rintro ⟨g, v⟩ hg K hK
  dsimp only [List.cons_append, List.nil_append] at hg ⊢
  refine JC_seq ?_
  refine JC_seq ?_
  refine JC_region ?_
  refine JL_pd rfl (det_move rfl) ?_
  refine JL_pd rfl (det_leq rfl rfl) ?_
  refine JL_nil ?_
  refine JE_seq ?_
  -- stop: cond
  refine JC_if rfl (fun h1 => ?_) (fun h1 => ?_)
  · have hg2 : g < 6 := by omega
    refine JC_skip ?_
    refine JE_seq ?_
    refine JC_seq ?_
    refine JC_block ?_
    refine JC_seq ?_
    refine JC_region ?_
    refine JL_pd rfl (det_assign rfl) ?_
    refine JL_nil ?_
    refine JE_seq ?_
    refine JC_seq ?_
    refine JC_seq ?_
    refine JC_region ?_
    refine JL_pd rfl (det_assign rfl) ?_
    refine JL_nil ?_
    refine JE_seq ?_
    refine JC_block ?_
    -- stop: loop
    refine JC_loopF (γ := Nat) (fun i => i ≤ m.steps.length) (fun i => [(6, I i), (5, .bool ((m.steps.take i).any fun s => decide (s.sg = (g : Int))))]) (fun i => []) (fun i => m.steps.length - i) 0 (Nat.zero_le _) (stsub_consI rfl rfl (stsub_consB rfl rfl stsub_nil)) ht_nil ?_
    rintro i hi K2 hK2
    dsimp only [List.cons_append, List.nil_append] at hi ⊢
    refine JC_seq ?_
    refine JC_seq ?_
    refine JC_region ?_
    refine JL_pd rfl (det_move rfl) ?_
    refine JL_pd rfl (det_fieldAddr rfl fo_26_1) ?_
    refine JL_dt rfl (det_loadK rfl Try.isAgg22 rfl) ?_
    refine JL_pd rfl (det_len rfl Try.runUnderlying22) ?_
    refine JL_pd rfl (det_lss rfl rfl) ?_
    refine JL_nil ?_
    refine JE_seq ?_
    -- stop: cond
    refine JC_if rfl (fun h2 => ?_) (fun h2 => ?_)
    · have hi2 : i < m.steps.length := by omega
      have hsn := any_snoc (p := fun s : Sp => decide (s.sg = (g : Int))) hi2
      refine JC_skip ?_
      refine JE_seq ?_
      refine JC_seq ?_
      refine JC_block ?_
      refine JC_region ?_
      refine JL_pd rfl (det_move rfl) ?_
      refine JL_pd rfl (det_move rfl) ?_
      -- stop: guard 1
      refine JL_split (d0 := 22) rfl (fun k1 => ?_) (fun k1 => ?_)
      · rw [k1, Bool.true_or] at hsn
        refine JL_skip rfl rfl k1 rfl ?_
        refine JL_skip rfl rfl k1 rfl ?_
        refine JL_skip rfl rfl k1 rfl ?_
        refine JL_skip rfl rfl k1 rfl ?_
        refine JL_skip rfl rfl k1 rfl ?_
        refine JL_skip rfl rfl k1 rfl ?_
        refine JL_skip rfl rfl k1 rfl ?_
        refine JL_skip rfl rfl k1 rfl ?_
        refine JL_pd rfl (det_pick_t rfl k1 rfl) ?_
        refine JL_pd rfl (det_assign rfl) ?_
        refine JL_nil ?_
        refine JE_block ?_
        refine JE_seq ?_
        refine JC_region ?_
        refine JL_pd rfl (det_move rfl) ?_
        refine JL_pd rfl (det_add rfl rfl ⟨by omega, by omega⟩) ?_
        refine JL_pd rfl (det_assign rfl) ?_
        refine JL_nil ?_
        -- stop: end
        refine JE_roundF hK2 (i + 1) (by omega) (by omega) (stsub_consI rfl (by omega) (stsub_consB rfl hsn.symm stsub_nil)) ht_nil
      · rw [k1, Bool.false_or] at hsn
        refine JL_guard rfl rfl k1 ?_
        refine JL_pd rfl (det_fieldAddr rfl fo_26_1) ?_
        refine JL_guard rfl rfl k1 ?_
        refine JL_dt rfl (det_loadK rfl Try.isAgg22 rfl) ?_
        refine JL_guard rfl rfl k1 ?_
        refine JL_pd rfl (det_move rfl) ?_
        refine JL_guard rfl rfl k1 ?_
        refine JL_dt rfl (det_indexAddr rfl rfl (by first | rfl | omega) (by first | assumption | omega | decide) Try.runUnderlying22 Try.sizeOf70) ?_
        refine JL_guard rfl rfl k1 ?_
        refine JL_pd rfl (det_fieldAddrE rfl fo_70_2) ?_
        refine JL_guard rfl rfl k1 ?_
        refine JL_dt rfl (det_loadEk rfl (by first | assumption | omega | decide) Try.isAgg3 rfl rfl) ?_
        refine JL_guard rfl rfl k1 ?_
        refine JL_pd rfl (det_move rfl) ?_
        refine JL_guard rfl rfl k1 ?_
        refine JL_pd rfl (det_eql rfl rfl) ?_
        refine JL_pd rfl (det_pick_f rfl k1 rfl) ?_
        refine JL_pd rfl (det_assign rfl) ?_
        refine JL_nil ?_
        refine JE_block ?_
        refine JE_seq ?_
        refine JC_region ?_
        refine JL_pd rfl (det_move rfl) ?_
        refine JL_pd rfl (det_add rfl rfl ⟨by omega, by omega⟩) ?_
        refine JL_pd rfl (det_assign rfl) ?_
        refine JL_nil ?_
        -- stop: end
        refine JE_roundF hK2 (i + 1) (by omega) (by omega) (stsub_consI rfl (by omega) (stsub_consB rfl hsn.symm stsub_nil)) ht_nil
    · obtain rfl : i = m.steps.length := by omega
      rw [List.take_length]
      have hcn : ∀ j, j < 8 → cnB m (lk64 (g * 8 + j)) = ((m.steps.any fun s => decide (s.sg = (g : Int))) && decide ((j : Int) < 3)) := fun j hj => by
        rw [lk64_at g j hj]
        unfold cnB
        rw [if_pos (by show (g : Int) ≤ 5; omega)]
      generalize hIS : (m.steps.any fun s => decide (s.sg = (g : Int))) = is at hcn
      refine JC_exit ?_
      refine JE_seq_exit ?_
      refine JE_then_exit ?_
      refine JE_block_here ?_
      refine JE_seq ?_
      refine JC_seq ?_
      refine JC_region ?_
      refine JL_pd rfl (det_assign rfl) ?_
      refine JL_nil ?_
      refine JE_seq ?_
      refine JC_block ?_
      -- stop: loop
      refine JC_loopF (γ := Nat × Value) (fun q => q.1 ≤ 3 ∧ (is = false → q.1 = 0)) (fun q => [(7, I q.1), (3, q.2)]) (fun q => [ow q.2 63 2 (candN m (g * 8 + q.1)).length ((candN m (g * 8 + q.1)).flatMap encLk)]) (fun q => 3 - q.1) (0, v) ⟨by simp, fun _ => rfl⟩ (stsub_consI rfl rfl (stsub_cons rfl stsub_nil)) (ht_cons ht_nil) ?_
      rintro ⟨j, u⟩ ⟨hj, hj0⟩ K3 hK3
      dsimp only [List.cons_append, List.nil_append] at hj hj0 ⊢
      have hlen := candN_len m (g * 8 + j)
      have hsc := candN_succ m (g * 8 + j)
      rw [lk64_at g j (by omega)] at hsc
      cases is with
      | false =>
        have hj0 := hj0 rfl
        subst hj0
        refine JC_seq ?_
        refine JC_seq ?_
        refine JC_region ?_
        refine JL_pd rfl (det_move rfl) ?_
        refine JL_pd rfl (det_lss rfl rfl) ?_
        refine JL_pd rfl (det_move rfl) ?_
        -- stop: guard 2
        refine JL_is (d0 := 34) true rfl (by rfl) (fun g1 => ?_)
        refine JL_guard rfl rfl g1 ?_
        refine JL_pd rfl (det_move rfl) ?_
        refine JL_pd rfl (det_pick_t rfl g1 rfl) ?_
        refine JL_nil ?_
        refine JE_seq ?_
        -- stop: cond
        refine JC_cond rfl (fun h3 => ?_) (fun h3 => ?_)
        · cases h3
        · refine JC_exit ?_
          refine JE_seq_exit ?_
          refine JE_then_exit ?_
          refine JE_block_here ?_
          refine JE_block ?_
          refine JE_seq ?_
          refine JC_region ?_
          refine JL_pd rfl (det_move rfl) ?_
          refine JL_pd rfl (det_add rfl rfl ⟨by omega, by omega⟩) ?_
          refine JL_pd rfl (det_assign rfl) ?_
          refine JL_nil ?_
          -- stop: end
          have hc := candN_const m (g * 8) (g * 8 + 8) (by omega) fun j h1 h2 => by
            have := hcn (j - g * 8) (by omega)
            rw [show g * 8 + (j - g * 8) = j by omega] at this
            rw [this]; rfl
          refine JE_roundF hK (g + 1, u) (by simp only; omega) (by simp only; omega) (stsub_consI rfl (by simp only; omega) (stsub_cons rfl stsub_nil)) (ht_ow (by rw [Nat.add_mul, Nat.one_mul, hc]; rfl) (by rw [Nat.add_mul, Nat.one_mul, hc]; rfl) ht_nil)
      | true =>
        have hcj : j < 3 → cnB m ⟨(g : Int), (j : Int)⟩ = true := fun h => by
          rw [← lk64_at g j (by omega), hcn j (by omega)]
          simp; omega
        refine JC_seq ?_
        refine JC_seq ?_
        refine JC_region ?_
        refine JL_pd rfl (det_move rfl) ?_
        refine JL_pd rfl (det_lss rfl rfl) ?_
        refine JL_pd rfl (det_move rfl) ?_
        -- stop: guard 2
        refine JL_split (d0 := 34) rfl (fun k2 => ?_) (fun k2 => ?_)
        · have k2' : j < 3 := by have := of_decide_eq_true k2; omega
          rw [if_pos (hcj k2')] at hsc
          refine JL_guard rfl rfl k2 ?_
          refine JL_pd rfl (det_move rfl) ?_
          refine JL_pd rfl (det_pick_t rfl k2 rfl) ?_
          refine JL_nil ?_
          refine JE_seq ?_
          -- stop: cond
          refine JC_cond rfl (fun h3 => ?_) (fun h3 => ?_)
          · refine JC_skip ?_
            refine JE_seq ?_
            refine JC_seq ?_
            refine JC_block ?_
            refine JC_region ?_
            refine JL_pd rfl (det_move rfl) ?_
            refine JL_pd rfl (det_move rfl) ?_
            refine JL_pd rfl (det_move rfl) ?_
            refine JL_pd rfl (det_build rfl (bld_63_0_1 _ _)) ?_
            refine JL_step rfl rfl rfl (jo_buildSlice rfl (bsl_24_1_0 _ _)) fun b43 => ?_
            refine JL_step rfl rfl rfl (jo_append el_24 rfl rfl rfl rfl (by omega)) fun b44 => ?_
            refine JL_pd rfl (det_assign rfl) ?_
            refine JL_nil ?_
            refine JE_block ?_
            refine JE_seq ?_
            refine JC_region ?_
            refine JL_pd rfl (det_move rfl) ?_
            refine JL_pd rfl (det_add rfl rfl ⟨by omega, by omega⟩) ?_
            refine JL_pd rfl (det_assign rfl) ?_
            refine JL_nil ?_
            -- stop: end
            refine JE_roundF hK3 (j + 1, .slice (some ⟨b44.1, 0, none⟩) ((candN m (g * 8 + j)).length + 1) b44.2) ⟨by simp only; omega, fun h => (by cases h)⟩ (by simp only; omega) (stsub_consI rfl (by simp only; omega) (stsub_cons rfl stsub_nil)) (ht_ow (by rw [← Nat.add_assoc, hsc]; simp) (by rw [← Nat.add_assoc, hsc, List.flatMap_append, List.flatMap_cons, List.flatMap_nil, List.append_nil]; rfl) ht_nil)
          · cases h3
        · have k2' : j = 3 := by
            have := of_decide_eq_false k2
            omega
          subst k2'
          refine JL_skip rfl rfl k2 rfl ?_
          refine JL_pd rfl (det_pick_f rfl k2 rfl) ?_
          refine JL_nil ?_
          refine JE_seq ?_
          -- stop: cond
          refine JC_cond rfl (fun h3 => ?_) (fun h3 => ?_)
          · cases h3
          · refine JC_exit ?_
            refine JE_seq_exit ?_
            refine JE_then_exit ?_
            refine JE_block_here ?_
            refine JE_block ?_
            refine JE_seq ?_
            refine JC_region ?_
            refine JL_pd rfl (det_move rfl) ?_
            refine JL_pd rfl (det_add rfl rfl ⟨by omega, by omega⟩) ?_
            refine JL_pd rfl (det_assign rfl) ?_
            refine JL_nil ?_
            -- stop: end
            have hc := candN_const m (g * 8 + 3) (g * 8 + 8) (by omega) fun j h1 h2 => by
              have := hcn (j - g * 8) (by omega)
              rw [show g * 8 + (j - g * 8) = j by omega] at this
              rw [this]; simp; omega
            refine JE_roundF hK (g + 1, u) (by simp only; omega) (by simp only; omega) (stsub_consI rfl (by simp only; omega) (stsub_cons rfl stsub_nil)) (ht_ow (by rw [Nat.add_mul, Nat.one_mul, hc]) (by rw [Nat.add_mul, Nat.one_mul, hc]) ht_nil)
  · obtain rfl : g = 6 := by omega
    refine JC_exit ?_
    refine JE_seq_exit ?_
    refine JE_then_exit ?_
    refine JE_block_here ?_
    refine JE_seq ?_
    refine JC_seq ?_
    refine JC_seq ?_
    refine JC_region ?_
    refine JL_pd rfl (det_assign rfl) ?_
    refine JL_nil ?_
    refine JE_seq ?_
    refine JC_block ?_
    -- stop: loop
    refine JC_loopF (γ := Nat × Value) (fun q => 6 ≤ q.1 ∧ q.1 ≤ 8) (fun q => [(8, I q.1), (3, q.2)]) (fun q => [ow q.2 63 2 (candN m (q.1 * 8)).length ((candN m (q.1 * 8)).flatMap encLk)]) (fun q => 8 - q.1) (6, v) ⟨by simp, by simp⟩ (stsub_consI rfl rfl (stsub_cons rfl stsub_nil)) (ht_cons ht_nil) ?_
    rintro ⟨g, u⟩ ⟨hg6, hg8⟩ K2 hK2
    dsimp only [List.cons_append, List.nil_append] at hg6 hg8 ⊢
    refine JC_seq ?_
    refine JC_seq ?_
    refine JC_region ?_
    refine JL_pd rfl (det_move rfl) ?_
    refine JL_pd rfl (det_leq rfl rfl) ?_
    refine JL_nil ?_
    refine JE_seq ?_
    -- stop: cond
    refine JC_if rfl (fun h4 => ?_) (fun h4 => ?_)
    · have hg2 : g < 8 := by omega
      have hcn : ∀ j, j < 8 → cnB m (lk64 (g * 8 + j)) = decide ((j : Int) < m.states) := fun j hj => by
        rw [lk64_at g j hj]
        unfold cnB
        rw [if_neg (by show ¬ (g : Int) ≤ 5; omega)]
      refine JC_skip ?_
      refine JE_seq ?_
      refine JC_seq ?_
      refine JC_block ?_
      refine JC_seq ?_
      refine JC_region ?_
      refine JL_pd rfl (det_assign rfl) ?_
      refine JL_nil ?_
      refine JE_seq ?_
      refine JC_block ?_
      -- stop: loop
      refine JC_loopF (γ := Nat × Value) (fun q => (q.1 : Int) ≤ m.states) (fun q => [(9, I q.1), (3, q.2)]) (fun q => [ow q.2 63 2 (candN m (g * 8 + q.1)).length ((candN m (g * 8 + q.1)).flatMap encLk)]) (fun q => 8 - q.1) (0, u) (by simp only; omega) (stsub_consI rfl rfl (stsub_cons rfl stsub_nil)) (ht_cons ht_nil) ?_
      rintro ⟨j, v2⟩ hj K3 hK3
      dsimp only [List.cons_append, List.nil_append] at hj ⊢
      have hlen := candN_len m (g * 8 + j)
      have hsc := candN_succ m (g * 8 + j)
      refine JC_seq ?_
      refine JC_seq ?_
      refine JC_region ?_
      refine JL_pd rfl (det_move rfl) ?_
      refine JL_pd rfl (det_fieldAddr rfl fo_26_0) ?_
      refine JL_dt rfl (det_loadK rfl Try.isAgg3 rfl) ?_
      refine JL_pd rfl (det_lss rfl rfl) ?_
      refine JL_nil ?_
      refine JE_seq ?_
      -- stop: cond
      refine JC_if rfl (fun h5 => ?_) (fun h5 => ?_)
      · have hcj := hcn j (by omega)
        rw [decide_eq_true h5] at hcj
        rw [if_pos hcj, lk64_at g j (by omega)] at hsc
        refine JC_skip ?_
        refine JE_seq ?_
        refine JC_seq ?_
        refine JC_block ?_
        refine JC_region ?_
        refine JL_pd rfl (det_move rfl) ?_
        refine JL_pd rfl (det_move rfl) ?_
        refine JL_pd rfl (det_move rfl) ?_
        refine JL_pd rfl (det_build rfl (bld_63_0_1 _ _)) ?_
        refine JL_step rfl rfl rfl (jo_buildSlice rfl (bsl_24_1_0 _ _)) fun b59 => ?_
        refine JL_step rfl rfl rfl (jo_append el_24 rfl rfl rfl rfl (by omega)) fun b60 => ?_
        refine JL_pd rfl (det_assign rfl) ?_
        refine JL_nil ?_
        refine JE_block ?_
        refine JE_seq ?_
        refine JC_region ?_
        refine JL_pd rfl (det_move rfl) ?_
        refine JL_pd rfl (det_add rfl rfl ⟨by omega, by omega⟩) ?_
        refine JL_pd rfl (det_assign rfl) ?_
        refine JL_nil ?_
        -- stop: end
        refine JE_roundF hK3 (j + 1, .slice (some ⟨b60.1, 0, none⟩) ((candN m (g * 8 + j)).length + 1) b60.2) (by simp only; omega) (by simp only; omega) (stsub_consI rfl (by simp only; omega) (stsub_cons rfl stsub_nil)) (ht_ow (by rw [← Nat.add_assoc, hsc]; simp) (by rw [← Nat.add_assoc, hsc, List.flatMap_append, List.flatMap_cons, List.flatMap_nil, List.append_nil]; rfl) ht_nil)
      · refine JC_exit ?_
        refine JE_seq_exit ?_
        refine JE_then_exit ?_
        refine JE_block_here ?_
        refine JE_block ?_
        refine JE_seq ?_
        refine JC_region ?_
        refine JL_pd rfl (det_move rfl) ?_
        refine JL_pd rfl (det_add rfl rfl ⟨by omega, by omega⟩) ?_
        refine JL_pd rfl (det_assign rfl) ?_
        refine JL_nil ?_
        -- stop: end
        have hc := candN_const m (g * 8 + j) (g * 8 + 8) (by omega) fun i h1 h2 => by
          have := hcn (i - g * 8) (by omega)
          rw [show g * 8 + (i - g * 8) = i by omega] at this
          rw [this]; exact decide_eq_false (by omega)
        refine JE_roundF hK2 (g + 1, v2) (by simp only; omega) (by simp only; omega) (stsub_consI rfl (by simp only; omega) (stsub_cons rfl stsub_nil)) (ht_ow (by rw [Nat.add_mul, Nat.one_mul, hc]) (by rw [Nat.add_mul, Nat.one_mul, hc]) ht_nil)
    · obtain rfl : g = 8 := by omega
      refine JC_slice (enc := encLk) (v := u) (candL m) noFp rfl rfl ?_
      rintro av cv rfl
      refine JC_exit ?_
      refine JE_seq_exit ?_
      refine JE_then_exit ?_
      refine JE_block_here ?_
      refine JE_seq ?_
      refine JC_seq ?_
      refine JC_region ?_
      refine JL_pd rfl (det_move rfl) ?_
      refine JL_pd rfl (det_assign rfl) ?_
      refine JL_nil ?_
      refine JE_seq ?_
      refine JC_ret ?_
      -- stop: out
      refine JE_out (.inl rfl) (av, cv) (results1 Try.results31 (res_tmp rfl)) rfl (List.Perm.refl _) (fun w h => h.1)
end Go.Proofs.Ytgbfjcgjcnndpaa

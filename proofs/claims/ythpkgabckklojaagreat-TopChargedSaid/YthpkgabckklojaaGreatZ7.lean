/- Own texts, laid together: L1 L2 L3 L4. Nothing is asked. -/
import Derived.Test.YthpkgabckklojaaGreatZ5
import Derived.Test.YthpkgabckklojaaGreatZ4
import Derived.Test.YthpkgabckklojaaGreatZ6
set_option linter.unusedSimpArgs false
set_option linter.unusedVariables false
/- League: games, points; the small functions. -/
namespace Go.Proofs.YthpkgabckklojaaGreat.Bl
open Go.RowKit Go.Shelf

structure Gm where
  a : Int
  b : Int
  pa : Int
  pb : Int
  op : Bool
deriving DecidableEq, Inhabited
def encG (x : Gm) : List Value := [I x.a, I x.b, I x.pa, I x.pb, .bool x.op]
instance : Rec encG 5 := ⟨fun _ => rfl, by decide⟩
theorem encG_one (y : Gm) : (encG y).all (·.oneCell') = true := rfl
def gmOk (n : Int) (g : Gm) : Bool := inI g.a 0 (n - 1) && (inI g.b 0 (n - 1) && (!decide (g.a = g.b) && ((inI g.pa 0 3000 && inI g.pb 0 3000) && (!g.op || (decide (g.pa = 0) && decide (g.pb = 0))))))
def lgE (n : Int) (l : List Gm) : Int := if 20 < l.length then 3 else if (inI n 2 6 && l.all (gmOk n)) = false then 1 else 0
def gv1 (g : Gm) : Int := if g.op = true then 0 else if g.pb < g.pa then 2 else if g.pa < g.pb then 0 else 1
def gv2 (g : Gm) : Int := if g.op = true then 0 else if g.pb < g.pa then 0 else if g.pa < g.pb then 2 else 1
structure VGm (n : Int) (g : Gm) : Prop where
  a0 : 0 ≤ g.a
  a1 : g.a < n
  b0 : 0 ≤ g.b
  b1 : g.b < n
  ne : g.a ≠ g.b
  p0 : 0 ≤ g.pa
  p1 : g.pa ≤ 3000
  q0 : 0 ≤ g.pb
  q1 : g.pb ≤ 3000
  o1 : g.op = true → g.pa = 0 ∧ g.pb = 0
theorem gmOk_iff {n : Int} {g : Gm} : gmOk n g = true ↔ VGm n g := by
  unfold gmOk
  simp only [Bool.and_eq_true, Bool.or_eq_true, inI_iff, decide_eq_true_eq, Bool.not_eq_true', decide_eq_false_iff_not]
  constructor
  · intro h
    refine ⟨h.1.1, by omega, h.2.1.1, by omega, h.2.2.1, h.2.2.2.1.1.1, h.2.2.2.1.1.2, h.2.2.2.1.2.1, h.2.2.2.1.2.2, fun ho => ?_⟩
    rcases h.2.2.2.2 with h5 | h5
    · rw [h5] at ho; cases ho
    · exact h5
  · intro h
    refine ⟨⟨h.a0, by have := h.a1; omega⟩, ⟨h.b0, by have := h.b1; omega⟩, h.ne, ⟨⟨h.p0, h.p1⟩, h.q0, h.q1⟩, ?_⟩
    cases ho : g.op
    · exact Or.inl rfl
    · exact Or.inr (h.o1 ho)
structure VL (n : Int) (l : List Gm) : Prop where
  l1 : l.length ≤ 20
  n0 : 2 ≤ n
  n1 : n ≤ 6
  g : ∀ x ∈ l, VGm n x
theorem lg_of {n : Int} {l : List Gm} (h : lgE n l = 0) : VL n l := by
  unfold lgE at h
  split at h
  · omega
  · split at h
    · omega
    · rename_i h1 h2
      rw [Bool.not_eq_false, Bool.and_eq_true, List.all_eq_true] at h2
      have := inI_iff.1 h2.1
      exact ⟨by omega, this.1, this.2, fun x hx => gmOk_iff.1 (h2.2 x hx)⟩
theorem of_lg {n : Int} {l : List Gm} (h : VL n l) : lgE n l = 0 := by
  unfold lgE
  have := h.l1
  rw [if_neg (by omega), if_neg (by rw [inI_iff.2 ⟨h.n0, h.n1⟩, List.all_eq_true.2 fun x hx => gmOk_iff.2 (h.g x hx)]; decide)]
theorem gwithin_j (n lo hi : Int) : Cv Tryz.prog 206 [I n, I lo, I hi] KTrue (.bool (inI n lo hi)) := by
  refine Cx_of Tryz.func206 rfl Tryz.ntmps206 rfl fun w0 M0 => ?_
  refine JC_seq ?_
  refine JC_region ?_
  refine JL_pd rfl (det_assign rfl) ?_
  refine JL_nil ?_
  refine JE_seq ?_
  refine JC_seq ?_
  refine JC_region ?_
  refine JL_pd rfl (det_move rfl) ?_
  refine JL_pd rfl (det_move rfl) ?_
  refine JL_pd rfl (det_leq rfl rfl) ?_
  refine JL_pd rfl (det_move rfl) ?_
  refine JL_split (d0 := 10) rfl (fun h1 => ?_) (fun h1 => ?_)
  · refine JL_guard rfl rfl h1 ?_
    refine JL_pd rfl (det_move rfl) ?_
    refine JL_guard rfl rfl h1 ?_
    refine JL_pd rfl (det_move rfl) ?_
    refine JL_guard rfl rfl h1 ?_
    refine JL_pd rfl (det_leq rfl rfl) ?_
    refine JL_pd rfl (det_pick_t rfl h1 rfl) ?_
    refine JL_pd rfl (det_assign rfl) ?_
    refine JL_nil ?_
    refine JE_seq ?_
    refine JC_ret ?_
    refine JE_out (.inl rfl) () (results1 Tryz.results206 (res_tmp rfl)) ?_ (List.Perm.refl _) (fun _ _ => trivial)
    (simp_all [inI])
    (try omega)
  · refine JL_skip rfl rfl h1 rfl ?_
    refine JL_skip rfl rfl h1 rfl ?_
    refine JL_skip rfl rfl h1 rfl ?_
    refine JL_pd rfl (det_pick_f rfl h1 rfl) ?_
    refine JL_pd rfl (det_assign rfl) ?_
    refine JL_nil ?_
    refine JE_seq ?_
    refine JC_ret ?_
    refine JE_out (.inl rfl) () (results1 Tryz.results206 (res_tmp rfl)) ?_ (List.Perm.refl _) (fun _ _ => trivial)
    (simp_all [inI])
    (try omega)
theorem teams_j (n : Int) : Cv Tryz.prog 153 [I n] KTrue (.bool (inI n 2 6)) := by
  refine Cx_of Tryz.func153 rfl Tryz.ntmps153 rfl fun w0 M0 => ?_
  refine JC_seq ?_
  refine JC_region ?_
  refine JL_pd rfl (det_assign rfl) ?_
  refine JL_nil ?_
  refine JE_seq ?_
  refine JC_seq ?_
  refine JC_region ?_
  refine JL_pd rfl (det_move rfl) ?_
  refine JL_step rfl rfl rfl (jo_callv rfl rfl Tryz.call206 rfl (gwithin_j _ _ _)) fun _ => ?_
  refine JL_pd rfl (det_assign rfl) ?_
  refine JL_nil ?_
  refine JE_seq ?_
  refine JC_ret ?_
  refine JE_out (.inl rfl) () (results1 Tryz.results153 (res_tmp rfl)) ?_ (List.Perm.refl _) (fun _ _ => trivial)
  rfl
theorem team_j (n : Int) (a : Option Addr) (m c : Nat) (x : Int) (h0 : -100 ≤ n ∧ n ≤ 100) : Cv Tryz.prog 209 [.agg #[I n, .slice a m c], I x] KTrue (.bool (inI x 0 (n - 1))) := by
  refine Cx_of Tryz.func209 rfl Tryz.ntmps209 rfl fun w0 M0 => ?_
  refine JC_seq ?_
  refine JC_region ?_
  refine JL_step rfl rfl rfl (jo_box rfl rfl) fun b2 => ?_
  refine JL_pd rfl (det_assign rfl) ?_
  refine JL_nil ?_
  refine JE_seq ?_
  refine JC_seq ?_
  refine JC_region ?_
  refine JL_pd rfl (det_move rfl) ?_
  refine JL_pd rfl (det_fieldAddr rfl fo_172_0) ?_
  refine JL_dt rfl (det_loadK rfl Tryz.isAgg3 rfl) ?_
  refine JL_pd rfl (det_sub rfl rfl ⟨by omega, by omega⟩) ?_
  refine JL_step rfl rfl rfl (jo_callv rfl rfl Tryz.call206 rfl (gwithin_j _ _ _)) fun _ => ?_
  refine JL_pd rfl (det_assign rfl) ?_
  refine JL_nil ?_
  refine JE_seq ?_
  refine JC_ret ?_
  -- stop: out
  refine JE_out (.inl rfl) () (results1 Tryz.results209 (res_tmp rfl)) rfl (List.Perm.refl _) (fun _ _ => trivial)
theorem game_j (n : Int) (a : Option Addr) (m c : Nat) (x : Gm) (h0 : -100 ≤ n ∧ n ≤ 100) : Cv Tryz.prog 155 [.agg #[I n, .slice a m c], .agg #[I x.a, I x.b, I x.pa, I x.pb, .bool x.op]] KTrue (.bool (gmOk n x)) := by
  have ht := fun y : Int => team_j n a m c y h0
  refine Cx_of Tryz.func155 rfl Tryz.ntmps155 rfl fun w0 M0 => ?_
  refine JC_seq ?_
  refine JC_region ?_
  refine JL_step rfl rfl rfl (jo_box rfl rfl) fun b2 => ?_
  refine JL_step rfl rfl rfl (jo_box rfl rfl) fun b3 => ?_
  refine JL_pd rfl (det_assign rfl) ?_
  refine JL_nil ?_
  refine JE_seq ?_
  refine JC_seq ?_
  refine JC_region ?_
  refine JL_pd rfl (det_fieldAddr rfl fo_169_2) ?_
  refine JL_dt rfl (det_loadK rfl Tryz.isAgg3 rfl) ?_
  refine JL_step rfl rfl rfl (jo_callv rfl rfl Tryz.call206 rfl (gwithin_j _ _ _)) fun _ => ?_
  refine JL_pd rfl (det_move rfl) ?_
  -- stop: guard 3
  refine JL_join1 5 5 (.bool (inI x.pa 0 3000 && inI x.pb 0 3000)) (fun hj => ?_) ?_
  · refine JL_split (d0 := 9) rfl (fun q1 => ?_) (fun q1 => ?_)
    · refine JL_guard rfl rfl q1 ?_
      refine JL_pd rfl (det_fieldAddr rfl fo_169_3) ?_
      refine JL_guard rfl rfl q1 ?_
      refine JL_dt rfl (det_loadK rfl Tryz.isAgg3 rfl) ?_
      refine JL_guard rfl rfl q1 ?_
      refine JL_step rfl rfl rfl (jo_callv rfl rfl Tryz.call206 rfl (gwithin_j _ _ _)) fun _ => ?_
      refine JL_pd rfl (det_pick_t rfl q1 rfl) ?_
      refine JL_pd rfl (det_assign rfl) ?_
      exact hj (by kernel_rfl) (stsub_consB rfl (by clear hj; first | rfl | (simp only [q1, Bool.and_true, Bool.true_and, Bool.false_and, Bool.and_false, Bool.or_true, Bool.true_or, Bool.or_false, Bool.false_or, Bool.not_true, Bool.not_false]; done) | (simp [q1]; done) | (simp at q1; done) | (simp [q1] <;> omega) | (exfalso; simp at q1; omega)) stsub_nil)
    · refine JL_skip rfl rfl q1 rfl ?_
      refine JL_skip rfl rfl q1 rfl ?_
      refine JL_skip rfl rfl q1 rfl ?_
      refine JL_pd rfl (det_pick_f rfl q1 rfl) ?_
      refine JL_pd rfl (det_assign rfl) ?_
      exact hj (by kernel_rfl) (stsub_consB rfl (by clear hj; first | rfl | (simp only [q1, Bool.and_true, Bool.true_and, Bool.false_and, Bool.and_false, Bool.or_true, Bool.true_or, Bool.or_false, Bool.false_or, Bool.not_true, Bool.not_false]; done) | (simp [q1]; done) | (simp at q1; done) | (simp [q1] <;> omega) | (exfalso; simp at q1; omega)) stsub_nil)
  refine JL_nil ?_
  refine JE_seq ?_
  refine JC_seq ?_
  refine JC_region ?_
  refine JL_dt rfl (det_loadKA rfl Tryz.isAgg172 Tryz.sizeOf172 rfl rfl) ?_
  refine JL_pd rfl (det_fieldAddr rfl fo_169_0) ?_
  refine JL_dt rfl (det_loadK rfl Tryz.isAgg3 rfl) ?_
  refine JL_step rfl rfl rfl (jo_callv rfl rfl Tryz.call209 rfl (ht _)) fun _ => ?_
  refine JL_pd rfl (det_move rfl) ?_
  -- stop: guard 4
  refine JL_join1 31 4 (.bool (gmOk n x)) (fun hj => ?_) ?_
  · refine JL_split (d0 := 18) rfl (fun q2 => ?_) (fun q2 => ?_)
    · refine JL_guard rfl rfl q2 ?_
      refine JL_dt rfl (det_loadKA rfl Tryz.isAgg172 Tryz.sizeOf172 rfl rfl) ?_
      refine JL_guard rfl rfl q2 ?_
      refine JL_pd rfl (det_fieldAddr rfl fo_169_1) ?_
      refine JL_guard rfl rfl q2 ?_
      refine JL_dt rfl (det_loadK rfl Tryz.isAgg3 rfl) ?_
      refine JL_guard rfl rfl q2 ?_
      refine JL_step rfl rfl rfl (jo_callv rfl rfl Tryz.call209 rfl (ht _)) fun _ => ?_
      refine JL_pd rfl (det_pick_t rfl q2 rfl) ?_
      refine JL_pd rfl (det_move rfl) ?_
      refine JL_split (d0 := 24) rfl (fun q3 => ?_) (fun q3 => ?_)
      · refine JL_guard rfl rfl q3 ?_
        refine JL_pd rfl (det_fieldAddr rfl fo_169_0) ?_
        refine JL_guard rfl rfl q3 ?_
        refine JL_dt rfl (det_loadK rfl Tryz.isAgg3 rfl) ?_
        refine JL_guard rfl rfl q3 ?_
        refine JL_pd rfl (det_fieldAddr rfl fo_169_1) ?_
        refine JL_guard rfl rfl q3 ?_
        refine JL_dt rfl (det_loadK rfl Tryz.isAgg3 rfl) ?_
        refine JL_guard rfl rfl q3 ?_
        refine JL_pd rfl (det_neq rfl rfl) ?_
        refine JL_pd rfl (det_pick_t rfl q3 rfl) ?_
        refine JL_pd rfl (det_move rfl) ?_
        refine JL_split (d0 := 31) rfl (fun q4 => ?_) (fun q4 => ?_)
        · refine JL_guard rfl rfl q4 ?_
          refine JL_pd rfl (det_move rfl) ?_
          refine JL_pd rfl (det_pick_t rfl q4 rfl) ?_
          refine JL_pd rfl (det_move rfl) ?_
          refine JL_split (d0 := 34) rfl (fun q5 => ?_) (fun q5 => ?_)
          · refine JL_guard rfl rfl q5 ?_
            refine JL_pd rfl (det_fieldAddr rfl fo_169_4) ?_
            refine JL_guard rfl rfl q5 ?_
            refine JL_dt rfl (det_loadK rfl Tryz.isAgg4 rfl) ?_
            refine JL_guard rfl rfl q5 ?_
            refine JL_pd rfl (det_not rfl) ?_
            refine JL_guard rfl rfl q5 ?_
            refine JL_pd rfl (det_move rfl) ?_
            refine JL_split (d0 := 38) rfl (fun q6 => ?_) (fun q6 => ?_)
            · refine JL_skip rfl rfl q6 rfl ?_
              refine JL_skip rfl rfl q6 rfl ?_
              refine JL_skip rfl rfl q6 rfl ?_
              refine JL_skip rfl rfl q6 rfl ?_
              refine JL_skipU rfl rfl rfl ?_
              refine JL_skipU rfl rfl rfl ?_
              refine JL_skipU rfl rfl rfl ?_
              refine JL_skip rfl rfl q6 rfl ?_
              refine JL_guard rfl rfl q5 ?_
              refine JL_pd rfl (det_pick_t rfl q6 rfl) ?_
              refine JL_pd rfl (det_pick_t rfl q5 rfl) ?_
              refine JL_pd rfl (det_assign rfl) ?_
              exact hj (by kernel_rfl) (stsub_consB rfl (by clear hj; first | rfl | (simp only [gmOk, q2, q3, q4, q5, q6, Bool.and_true, Bool.true_and, Bool.false_and, Bool.and_false, Bool.or_true, Bool.true_or, Bool.or_false, Bool.false_or, Bool.not_true, Bool.not_false]; done) | (simp [gmOk, q2, q3, q4, q5, q6]; done) | (simp [gmOk] at q2; done) | (simp [gmOk] at q3; done) | (simp [gmOk] at q4; done) | (simp [gmOk] at q5; done) | (simp [gmOk] at q6; done) | (simp [gmOk, q2, q3, q4, q5, q6] <;> omega) | (exfalso; simp [gmOk] at q2 q3 q4 q5 q6; omega) | (simp [q3, q4, q5, q6, gmOk] at q2; done) | (simp [q2, q4, q5, q6, gmOk] at q3; done) | (simp [q2, q3, q5, q6, gmOk] at q4; done) | (simp [q2, q3, q4, q6, gmOk] at q5; done) | (simp [q2, q3, q4, q5, gmOk] at q6; done)) stsub_nil)
            · refine JL_guard rfl rfl q6 ?_
              refine JL_pd rfl (det_fieldAddr rfl fo_169_2) ?_
              refine JL_guard rfl rfl q6 ?_
              refine JL_dt rfl (det_loadK rfl Tryz.isAgg3 rfl) ?_
              refine JL_guard rfl rfl q6 ?_
              refine JL_pd rfl (det_eql rfl rfl) ?_
              refine JL_guard rfl rfl q6 ?_
              refine JL_pd rfl (det_move rfl) ?_
              refine JL_split (d0 := 42) rfl (fun q7 => ?_) (fun q7 => ?_)
              · refine JL_guard rfl rfl q7 ?_
                refine JL_pd rfl (det_fieldAddr rfl fo_169_3) ?_
                refine JL_guard rfl rfl q7 ?_
                refine JL_dt rfl (det_loadK rfl Tryz.isAgg3 rfl) ?_
                refine JL_guard rfl rfl q7 ?_
                refine JL_pd rfl (det_eql rfl rfl) ?_
                refine JL_guard rfl rfl q6 ?_
                refine JL_pd rfl (det_pick_t rfl q7 rfl) ?_
                refine JL_guard rfl rfl q5 ?_
                refine JL_pd rfl (det_pick_f rfl q6 rfl) ?_
                refine JL_pd rfl (det_pick_t rfl q5 rfl) ?_
                refine JL_pd rfl (det_assign rfl) ?_
                exact hj (by kernel_rfl) (stsub_consB rfl (by clear hj; first | rfl | (simp only [gmOk, q2, q3, q4, q5, q6, q7, Bool.and_true, Bool.true_and, Bool.false_and, Bool.and_false, Bool.or_true, Bool.true_or, Bool.or_false, Bool.false_or, Bool.not_true, Bool.not_false]; done) | (simp [gmOk, q2, q3, q4, q5, q6, q7]; done) | (simp [gmOk] at q2; done) | (simp [gmOk] at q3; done) | (simp [gmOk] at q4; done) | (simp [gmOk] at q5; done) | (simp [gmOk] at q6; done) | (simp [gmOk] at q7; done) | (simp [gmOk, q2, q3, q4, q5, q6, q7] <;> omega) | (exfalso; simp [gmOk] at q2 q3 q4 q5 q6 q7; omega) | (simp [q3, q4, q5, q6, q7, gmOk] at q2; done) | (simp [q2, q4, q5, q6, q7, gmOk] at q3; done) | (simp [q2, q3, q5, q6, q7, gmOk] at q4; done) | (simp [q2, q3, q4, q6, q7, gmOk] at q5; done) | (simp [q2, q3, q4, q5, q7, gmOk] at q6; done) | (simp [q2, q3, q4, q5, q6, gmOk] at q7; done)) stsub_nil)
              · refine JL_skip rfl rfl q7 rfl ?_
                refine JL_skip rfl rfl q7 rfl ?_
                refine JL_skip rfl rfl q7 rfl ?_
                refine JL_guard rfl rfl q6 ?_
                refine JL_pd rfl (det_pick_f rfl q7 rfl) ?_
                refine JL_guard rfl rfl q5 ?_
                refine JL_pd rfl (det_pick_f rfl q6 rfl) ?_
                refine JL_pd rfl (det_pick_t rfl q5 rfl) ?_
                refine JL_pd rfl (det_assign rfl) ?_
                exact hj (by kernel_rfl) (stsub_consB rfl (by clear hj; first | rfl | (simp only [gmOk, q2, q3, q4, q5, q6, q7, Bool.and_true, Bool.true_and, Bool.false_and, Bool.and_false, Bool.or_true, Bool.true_or, Bool.or_false, Bool.false_or, Bool.not_true, Bool.not_false]; done) | (simp [gmOk, q2, q3, q4, q5, q6, q7]; done) | (simp [gmOk] at q2; done) | (simp [gmOk] at q3; done) | (simp [gmOk] at q4; done) | (simp [gmOk] at q5; done) | (simp [gmOk] at q6; done) | (simp [gmOk] at q7; done) | (simp [gmOk, q2, q3, q4, q5, q6, q7] <;> omega) | (exfalso; simp [gmOk] at q2 q3 q4 q5 q6 q7; omega) | (simp [q3, q4, q5, q6, q7, gmOk] at q2; done) | (simp [q2, q4, q5, q6, q7, gmOk] at q3; done) | (simp [q2, q3, q5, q6, q7, gmOk] at q4; done) | (simp [q2, q3, q4, q6, q7, gmOk] at q5; done) | (simp [q2, q3, q4, q5, q7, gmOk] at q6; done) | (simp [q2, q3, q4, q5, q6, gmOk] at q7; done)) stsub_nil)
          · refine JL_skip rfl rfl q5 rfl ?_
            refine JL_skip rfl rfl q5 rfl ?_
            refine JL_skip rfl rfl q5 rfl ?_
            refine JL_skip rfl rfl q5 rfl ?_
            refine JL_skipU rfl rfl rfl ?_
            refine JL_skipU rfl rfl rfl ?_
            refine JL_skipU rfl rfl rfl ?_
            refine JL_skipU rfl rfl rfl ?_
            refine JL_skipU rfl rfl rfl ?_
            refine JL_skipU rfl rfl rfl ?_
            refine JL_skipU rfl rfl rfl ?_
            refine JL_skipU rfl rfl rfl ?_
            refine JL_skip rfl rfl q5 rfl ?_
            refine JL_pd rfl (det_pick_f rfl q5 rfl) ?_
            refine JL_pd rfl (det_assign rfl) ?_
            exact hj (by kernel_rfl) (stsub_consB rfl (by clear hj; first | rfl | (simp only [gmOk, q2, q3, q4, q5, Bool.and_true, Bool.true_and, Bool.false_and, Bool.and_false, Bool.or_true, Bool.true_or, Bool.or_false, Bool.false_or, Bool.not_true, Bool.not_false]; done) | (simp [gmOk, q2, q3, q4, q5]; done) | (simp [gmOk] at q2; done) | (simp [gmOk] at q3; done) | (simp [gmOk] at q4; done) | (simp [gmOk] at q5; done) | (simp [gmOk, q2, q3, q4, q5] <;> omega) | (exfalso; simp [gmOk] at q2 q3 q4 q5; omega) | (simp [q3, q4, q5, gmOk] at q2; done) | (simp [q2, q4, q5, gmOk] at q3; done) | (simp [q2, q3, q5, gmOk] at q4; done) | (simp [q2, q3, q4, gmOk] at q5; done)) stsub_nil)
        · refine JL_skip rfl rfl q4 rfl ?_
          refine JL_pd rfl (det_pick_f rfl q4 rfl) ?_
          refine JL_pd rfl (det_move rfl) ?_
          refine JL_skip rfl rfl rfl rfl ?_
          refine JL_skip rfl rfl rfl rfl ?_
          refine JL_skip rfl rfl rfl rfl ?_
          refine JL_skip rfl rfl rfl rfl ?_
          refine JL_skipU rfl rfl rfl ?_
          refine JL_skipU rfl rfl rfl ?_
          refine JL_skipU rfl rfl rfl ?_
          refine JL_skipU rfl rfl rfl ?_
          refine JL_skipU rfl rfl rfl ?_
          refine JL_skipU rfl rfl rfl ?_
          refine JL_skipU rfl rfl rfl ?_
          refine JL_skipU rfl rfl rfl ?_
          refine JL_skip rfl rfl rfl rfl ?_
          refine JL_pd rfl (det_pick_f rfl rfl rfl) ?_
          refine JL_pd rfl (det_assign rfl) ?_
          exact hj (by kernel_rfl) (stsub_consB rfl (by clear hj; first | rfl | (simp only [gmOk, q2, q3, q4, Bool.and_true, Bool.true_and, Bool.false_and, Bool.and_false, Bool.or_true, Bool.true_or, Bool.or_false, Bool.false_or, Bool.not_true, Bool.not_false]; done) | (simp [gmOk, q2, q3, q4]; done) | (simp [gmOk] at q2; done) | (simp [gmOk] at q3; done) | (simp [gmOk] at q4; done) | (simp [gmOk, q2, q3, q4] <;> omega) | (exfalso; simp [gmOk] at q2 q3 q4; omega) | (simp [q3, q4, gmOk] at q2; done) | (simp [q2, q4, gmOk] at q3; done) | (simp [q2, q3, gmOk] at q4; done)) stsub_nil)
      · refine JL_skip rfl rfl q3 rfl ?_
        refine JL_skip rfl rfl q3 rfl ?_
        refine JL_skip rfl rfl q3 rfl ?_
        refine JL_skip rfl rfl q3 rfl ?_
        refine JL_skip rfl rfl q3 rfl ?_
        refine JL_pd rfl (det_pick_f rfl q3 rfl) ?_
        refine JL_pd rfl (det_move rfl) ?_
        refine JL_skip rfl rfl rfl rfl ?_
        refine JL_pd rfl (det_pick_f rfl rfl rfl) ?_
        refine JL_pd rfl (det_move rfl) ?_
        refine JL_skip rfl rfl rfl rfl ?_
        refine JL_skip rfl rfl rfl rfl ?_
        refine JL_skip rfl rfl rfl rfl ?_
        refine JL_skip rfl rfl rfl rfl ?_
        refine JL_skipU rfl rfl rfl ?_
        refine JL_skipU rfl rfl rfl ?_
        refine JL_skipU rfl rfl rfl ?_
        refine JL_skipU rfl rfl rfl ?_
        refine JL_skipU rfl rfl rfl ?_
        refine JL_skipU rfl rfl rfl ?_
        refine JL_skipU rfl rfl rfl ?_
        refine JL_skipU rfl rfl rfl ?_
        refine JL_skip rfl rfl rfl rfl ?_
        refine JL_pd rfl (det_pick_f rfl rfl rfl) ?_
        refine JL_pd rfl (det_assign rfl) ?_
        exact hj (by kernel_rfl) (stsub_consB rfl (by clear hj; first | rfl | (simp only [gmOk, q2, q3, Bool.and_true, Bool.true_and, Bool.false_and, Bool.and_false, Bool.or_true, Bool.true_or, Bool.or_false, Bool.false_or, Bool.not_true, Bool.not_false]; done) | (simp [gmOk, q2, q3]; done) | (simp [gmOk] at q2; done) | (simp [gmOk] at q3; done) | (simp [gmOk, q2, q3] <;> omega) | (exfalso; simp [gmOk] at q2 q3; omega) | (simp [q3, gmOk] at q2; done) | (simp [q2, gmOk] at q3; done)) stsub_nil)
    · refine JL_skip rfl rfl q2 rfl ?_
      refine JL_skip rfl rfl q2 rfl ?_
      refine JL_skip rfl rfl q2 rfl ?_
      refine JL_skip rfl rfl q2 rfl ?_
      refine JL_pd rfl (det_pick_f rfl q2 rfl) ?_
      refine JL_pd rfl (det_move rfl) ?_
      refine JL_skip rfl rfl rfl rfl ?_
      refine JL_skip rfl rfl rfl rfl ?_
      refine JL_skip rfl rfl rfl rfl ?_
      refine JL_skip rfl rfl rfl rfl ?_
      refine JL_skip rfl rfl rfl rfl ?_
      refine JL_pd rfl (det_pick_f rfl rfl rfl) ?_
      refine JL_pd rfl (det_move rfl) ?_
      refine JL_skip rfl rfl rfl rfl ?_
      refine JL_pd rfl (det_pick_f rfl rfl rfl) ?_
      refine JL_pd rfl (det_move rfl) ?_
      refine JL_skip rfl rfl rfl rfl ?_
      refine JL_skip rfl rfl rfl rfl ?_
      refine JL_skip rfl rfl rfl rfl ?_
      refine JL_skip rfl rfl rfl rfl ?_
      refine JL_skipU rfl rfl rfl ?_
      refine JL_skipU rfl rfl rfl ?_
      refine JL_skipU rfl rfl rfl ?_
      refine JL_skipU rfl rfl rfl ?_
      refine JL_skipU rfl rfl rfl ?_
      refine JL_skipU rfl rfl rfl ?_
      refine JL_skipU rfl rfl rfl ?_
      refine JL_skipU rfl rfl rfl ?_
      refine JL_skip rfl rfl rfl rfl ?_
      refine JL_pd rfl (det_pick_f rfl rfl rfl) ?_
      refine JL_pd rfl (det_assign rfl) ?_
      exact hj (by kernel_rfl) (stsub_consB rfl (by clear hj; first | rfl | (simp only [gmOk, q2, Bool.and_true, Bool.true_and, Bool.false_and, Bool.and_false, Bool.or_true, Bool.true_or, Bool.or_false, Bool.false_or, Bool.not_true, Bool.not_false]; done) | (simp [gmOk, q2]; done) | (simp [gmOk] at q2; done) | (simp [gmOk, q2] <;> omega) | (exfalso; simp [gmOk] at q2; omega)) stsub_nil)
  refine JL_nil ?_
  refine JE_seq ?_
  refine JC_ret ?_
  -- stop: out
  refine JE_out (.inl rfl) () (results1 Tryz.results155 (res_tmp rfl)) rfl (List.Perm.refl _) (fun _ _ => trivial)
theorem gives_j (x : Gm) : Cv Tryz.prog 161 [.agg #[I x.a, I x.b, I x.pa, I x.pb, .bool x.op]] KTrue (.tuple #[I (gv1 x), I (gv2 x)]) := by
  refine Cx_of Tryz.func161 rfl Tryz.ntmps161 rfl fun w0 M0 => ?_
  refine JC_seq ?_
  refine JC_region ?_
  refine JL_step rfl rfl rfl (jo_box rfl rfl) fun b1 => ?_
  refine JL_pd rfl (det_assign rfl) ?_
  refine JL_pd rfl (det_assign rfl) ?_
  refine JL_nil ?_
  refine JE_seq ?_
  refine JC_seq ?_
  refine JC_block ?_
  refine JC_seq ?_
  refine JC_region ?_
  refine JL_pd rfl (det_fieldAddr rfl fo_169_4) ?_
  refine JL_dt rfl (det_loadK rfl Tryz.isAgg4 rfl) ?_
  refine JL_pd rfl (det_assign rfl) ?_
  refine JL_nil ?_
  refine JE_seq ?_
  refine JC_cond rfl (fun h1 => ?_) (fun h1 => ?_)
  · refine JC_seq ?_
    refine JC_region ?_
    refine JL_pd rfl (det_assign rfl) ?_
    refine JL_pd rfl (det_assign rfl) ?_
    refine JL_nil ?_
    refine JE_seq ?_
    refine JC_ret ?_
    refine JE_block_ret ?_
    refine JE_seq_ret ?_
    refine JE_out (.inl rfl) () (results2 Tryz.results161 (res_tmp rfl) (res_tmp rfl)) ?_ (List.Perm.refl _) (fun _ _ => trivial)
    (simp_all [gv1, gv2])
    (try omega)
  · refine JC_seq ?_
    refine JC_region ?_
    refine JL_pd rfl (det_fieldAddr rfl fo_169_2) ?_
    refine JL_dt rfl (det_loadK rfl Tryz.isAgg3 rfl) ?_
    refine JL_pd rfl (det_fieldAddr rfl fo_169_3) ?_
    refine JL_dt rfl (det_loadK rfl Tryz.isAgg3 rfl) ?_
    refine JL_pd rfl (det_gtr rfl rfl) ?_
    refine JL_pd rfl (det_assign rfl) ?_
    refine JL_nil ?_
    refine JE_seq ?_
    refine JC_cond rfl (fun h2 => ?_) (fun h2 => ?_)
    · refine JC_seq ?_
      refine JC_region ?_
      refine JL_pd rfl (det_assign rfl) ?_
      refine JL_pd rfl (det_assign rfl) ?_
      refine JL_nil ?_
      refine JE_seq ?_
      refine JC_ret ?_
      refine JE_block_ret ?_
      refine JE_seq_ret ?_
      refine JE_out (.inl rfl) () (results2 Tryz.results161 (res_tmp rfl) (res_tmp rfl)) ?_ (List.Perm.refl _) (fun _ _ => trivial)
      (simp_all [gv1, gv2])
      (try omega)
    · refine JC_seq ?_
      refine JC_region ?_
      refine JL_pd rfl (det_fieldAddr rfl fo_169_2) ?_
      refine JL_dt rfl (det_loadK rfl Tryz.isAgg3 rfl) ?_
      refine JL_pd rfl (det_fieldAddr rfl fo_169_3) ?_
      refine JL_dt rfl (det_loadK rfl Tryz.isAgg3 rfl) ?_
      refine JL_pd rfl (det_lss rfl rfl) ?_
      refine JL_pd rfl (det_assign rfl) ?_
      refine JL_nil ?_
      refine JE_seq ?_
      refine JC_cond rfl (fun h3 => ?_) (fun h3 => ?_)
      · refine JC_seq ?_
        refine JC_region ?_
        refine JL_pd rfl (det_assign rfl) ?_
        refine JL_pd rfl (det_assign rfl) ?_
        refine JL_nil ?_
        refine JE_seq ?_
        refine JC_ret ?_
        refine JE_block_ret ?_
        refine JE_seq_ret ?_
        refine JE_out (.inl rfl) () (results2 Tryz.results161 (res_tmp rfl) (res_tmp rfl)) ?_ (List.Perm.refl _) (fun _ _ => trivial)
        (simp_all [gv1, gv2])
        (try omega)
      · refine JC_skip ?_
        refine JE_block ?_
        refine JE_seq ?_
        refine JC_seq ?_
        refine JC_region ?_
        refine JL_pd rfl (det_assign rfl) ?_
        refine JL_pd rfl (det_assign rfl) ?_
        refine JL_nil ?_
        refine JE_seq ?_
        refine JC_ret ?_
        refine JE_out (.inl rfl) () (results2 Tryz.results161 (res_tmp rfl) (res_tmp rfl)) ?_ (List.Perm.refl _) (fun _ _ => trivial)
        (simp_all [gv1, gv2])
        (try omega)
end Go.Proofs.YthpkgabckklojaaGreat.Bl

/- League: all of a list; whether a league is valid. -/
namespace Go.Proofs.YthpkgabckklojaaGreat.Bl
open Go.RowKit Go.Shelf

def encB (n : Int) : List Value := [.int .u8 n]
instance : Rec encB 1 := ⟨fun _ => rfl, by decide⟩
theorem encB_one (y : Int) : (encB y).all (·.oneCell') = true := rfl
set_option maxRecDepth 100000 in
theorem indexFuncG_j (p : Gm → Bool) (F : Nat) (fs cs : List Value) (Kf : World → Prop) (eF : ∀ args w, (callFunc F args).run Tryz.prog w = .ok (.enter F args) w) (a : Option Addr) (cap : Nat) (xs : List Gm) (hF : ∀ x ∈ xs, Cv Tryz.prog F (fs ++ [.agg #[I x.a, I x.b, I x.pa, I x.pb, .bool x.op]] ++ cs) Kf (.bool (p x))) (hl : xs.length ≤ 9223372036854775807) :
    Cv Tryz.prog 210 [.slice a xs.length cap, .func (.func F) fs.toArray cs.toArray] (KAnd (KSl a xs.length cap encG xs) Kf) (I (idxOf p xs)) := by
  refine Cx_of Tryz.func210 rfl Tryz.ntmps210 rfl fun w0 M0 => ?_
  refine JC_seq ?_
  refine JC_region ?_
  refine JL_pd rfl (det_assign rfl) ?_
  refine JL_nil ?_
  refine JE_seq ?_
  refine JC_seq ?_
  refine JC_seq ?_
  refine JC_region ?_
  refine JL_pd rfl (det_move rfl) ?_
  refine JL_pd rfl (det_len rfl Tryz.runUnderlying170) ?_
  refine JL_pd rfl (det_move rfl) ?_
  refine JL_nil ?_
  refine JE_seq ?_
  refine JC_block ?_
  -- stop: loop
  refine JC_loopF (γ := Nat) (fun i => i ≤ xs.length ∧ (xs.take i).any p = false) (fun i => [(8, I i)]) (fun _ => []) (fun i => xs.length - i) 0 ⟨Nat.zero_le _, rfl⟩ (stsub_consI rfl rfl stsub_nil) ht_nil ?_
  rintro i ⟨hi, hno⟩ K hK
  dsimp only [List.cons_append, List.nil_append]
  refine JC_seq ?_
  refine JC_region ?_
  refine JL_pd rfl (det_lss rfl rfl) ?_
  refine JL_nil ?_
  refine JE_seq ?_
  refine JC_seq ?_
  -- stop: cond
  refine JC_if rfl (fun h1 => ?_) (fun h1 => ?_)
  · have hi2 : i < xs.length := by omega
    refine JC_skip ?_
    refine JE_seq ?_
    refine JC_seq ?_
    refine JC_block ?_
    refine JC_seq ?_
    refine JC_region ?_
    refine JL_pd rfl (det_move rfl) ?_
    refine JL_pd rfl (det_assign rfl) ?_
    refine JL_nil ?_
    refine JE_seq ?_
    refine JC_seq ?_
    refine JC_region ?_
    refine JL_pd rfl (det_move rfl) ?_
    refine JL_pd rfl (det_move rfl) ?_
    refine JL_pd rfl (det_move rfl) ?_
    refine JL_dt rfl (det_indexAddr rfl rfl (by first | rfl | omega) (by first | assumption | omega | decide) Tryz.runUnderlying170 Tryz.sizeOf169) ?_
    refine JL_dt rfl (det_loadEA rfl (by first | assumption | omega | decide) Tryz.isAgg169 Tryz.sizeOf169 rfl rfl rfl) ?_
    -- stop: op  5 t16 := (call (Call (value t11) (t15) (169)))   <0 4>   109
    refine JL_step rfl rfl rfl (jo_callv rfl rfl eF rfl (hF xs[i] (List.getElem_mem hi2))) fun _ => ?_
    refine JL_nil ?_
    refine JE_seq ?_
    -- stop: cond
    refine JC_cond rfl (fun h2 => ?_) (fun h2 => ?_)
    · refine JC_seq ?_
      refine JC_region ?_
      refine JL_pd rfl (det_move rfl) ?_
      refine JL_pd rfl (det_assign rfl) ?_
      refine JL_nil ?_
      refine JE_seq ?_
      refine JC_ret ?_
      refine JE_block_ret ?_
      refine JE_seq_ret ?_
      refine JE_then_ret ?_
      refine JE_block_ret ?_
      refine JE_seq_ret ?_
      -- stop: out
      refine JE_out (.inl rfl) () (results1 Tryz.results210 (res_tmp rfl)) (by rw [idxOf_hit hi2 hno h2]) (List.Perm.refl _) (fun _ _ => trivial)
    · refine JC_skip ?_
      refine JE_block ?_
      refine JE_seq ?_
      refine JC_region ?_
      refine JL_pd rfl (det_add rfl rfl ⟨by omega, by omega⟩) ?_
      refine JL_pd rfl (det_move rfl) ?_
      refine JL_nil ?_
      -- stop: end
      refine JE_roundF hK (i + 1) ⟨by omega, by rw [take_snoc hi2, List.any_append, hno]; simp [h2]⟩ (by omega) (stsub_consI rfl (by omega) stsub_nil) ht_nil
  · refine JC_exit ?_
    refine JE_seq_exit ?_
    refine JE_then_exit ?_
    refine JE_block_here ?_
    refine JE_seq ?_
    refine JC_seq ?_
    refine JC_region ?_
    refine JL_pd rfl (det_assign rfl) ?_
    refine JL_nil ?_
    refine JE_seq ?_
    refine JC_ret ?_
    -- stop: out
    obtain rfl : i = xs.length := by omega
    rw [List.take_length] at hno
    refine JE_out (.inl rfl) () (results1 Tryz.results210 (res_tmp rfl)) (by rw [idxOf_none hno]) (List.Perm.refl _) (fun _ _ => trivial)
theorem containsFuncG_j (p : Gm → Bool) (F : Nat) (fs cs : List Value) (Kf : World → Prop) (eF : ∀ args w, (callFunc F args).run Tryz.prog w = .ok (.enter F args) w) (a : Option Addr) (cap : Nat) (xs : List Gm) (hF : ∀ x ∈ xs, Cv Tryz.prog F (fs ++ [.agg #[I x.a, I x.b, I x.pa, I x.pb, .bool x.op]] ++ cs) Kf (.bool (p x))) (hl : xs.length ≤ 9223372036854775807) :
    Cv Tryz.prog 207 [.slice a xs.length cap, .func (.func F) fs.toArray cs.toArray] (KAnd (KSl a xs.length cap encG xs) Kf) (.bool (xs.any p)) := by
  refine Cx_of Tryz.func207 rfl Tryz.ntmps207 rfl fun w0 M0 => ?_
  refine JC_seq ?_
  refine JC_region ?_
  refine JL_pd rfl (det_assign rfl) ?_
  refine JL_nil ?_
  refine JE_seq ?_
  refine JC_seq ?_
  refine JC_region ?_
  refine JL_pd rfl (det_move rfl) ?_
  refine JL_pd rfl (det_move rfl) ?_
  -- stop: op  2 t7 := (call (Call (value f210) (t5 t6) (170 267)))   <0 1>   125
  refine JL_step rfl rfl rfl (jo_callv rfl rfl Tryz.call210 rfl (indexFuncG_j p F fs cs Kf eF a cap xs hF hl)) fun _ => ?_
  refine JL_pd rfl (det_geq rfl rfl) ?_
  refine JL_pd rfl (det_assign rfl) ?_
  refine JL_nil ?_
  refine JE_seq ?_
  refine JC_ret ?_
  -- stop: out
  refine JE_out (.inl rfl) () (results1 Tryz.results207 (res_tmp rfl)) (by rw [show decide ((0 : Int) ≤ idxOf p xs) = xs.any p from idxOf_any]) (List.Perm.refl _) (fun _ _ => trivial)
theorem allG_1 (p : Gm → Bool) (F : Nat) (fs cs : List Value) (Kf : World → Prop) (eF : ∀ args w, (callFunc F args).run Tryz.prog w = .ok (.enter F args) w) (x : Gm) (hF : Cv Tryz.prog F (fs ++ [.agg #[I x.a, I x.b, I x.pa, I x.pb, .bool x.op]] ++ cs) Kf (.bool (p x))) (b : Nat) :
    Cv Tryz.prog 208 [.agg #[I x.a, I x.b, I x.pa, I x.pb, .bool x.op], .pointer (some ⟨b, 0, none⟩)] (KAnd (KBox b [.func (.func F) fs.toArray cs.toArray]) Kf) (.bool (!p x)) := by
  refine Cx_of Tryz.func208 rfl Tryz.ntmps208 rfl fun w0 M0 => ?_
  refine JC_seq ?_
  refine JC_region ?_
  refine JL_step rfl rfl rfl (jo_box rfl rfl) fun b2 => ?_
  refine JL_pd rfl (det_assign rfl) ?_
  refine JL_nil ?_
  refine JE_seq ?_
  refine JC_seq ?_
  refine JC_region ?_
  refine JL_dt rfl (det_loadK rfl Tryz.isAgg267 rfl) ?_
  refine JL_dt rfl (det_loadKA rfl Tryz.isAgg169 Tryz.sizeOf169 rfl rfl) ?_
  -- stop: op  2 t6 := (call (Call (value t4) (t5) (169)))   <0 1>   45
  refine JL_step rfl rfl rfl (jo_callv rfl rfl eF rfl (hF)) fun _ => ?_
  refine JL_pd rfl (det_not rfl) ?_
  refine JL_pd rfl (det_assign rfl) ?_
  refine JL_nil ?_
  refine JE_seq ?_
  refine JC_ret ?_
  -- stop: out
  refine JE_out (.inl rfl) () (results1 Tryz.results208 (res_tmp rfl)) rfl (List.Perm.refl _) (fun _ _ => trivial)
theorem allG_j (p : Gm → Bool) (F : Nat) (fs cs : List Value) (Kf : World → Prop) (eF : ∀ args w, (callFunc F args).run Tryz.prog w = .ok (.enter F args) w) (a : Option Addr) (cap : Nat) (xs : List Gm) (hF : ∀ x ∈ xs, Cv Tryz.prog F (fs ++ [.agg #[I x.a, I x.b, I x.pa, I x.pb, .bool x.op]] ++ cs) Kf (.bool (p x))) (hl : xs.length ≤ 9223372036854775807) :
    Cv Tryz.prog 154 [.slice a xs.length cap, .func (.func F) fs.toArray cs.toArray] (KAnd (KSl a xs.length cap encG xs) Kf) (.bool (xs.all p)) := by
  have hcf := fun b3 : Nat => containsFuncG_j (fun x => !p x) 208 [] [.pointer (some ⟨b3, 0, none⟩)] _ Tryz.call208 a cap xs (fun x hx => allG_1 p F fs cs Kf eF x (hF x hx) b3) hl
  refine Cx_of Tryz.func154 rfl Tryz.ntmps154 rfl fun w0 M0 => ?_
  refine JC_seq ?_
  refine JC_region ?_
  refine JL_step rfl rfl rfl (jo_box rfl rfl) fun b3 => ?_
  refine JL_pd rfl (det_assign rfl) ?_
  refine JL_nil ?_
  refine JE_seq ?_
  refine JC_seq ?_
  refine JC_region ?_
  refine JL_pd rfl (det_move rfl) ?_
  refine JL_pd rfl (det_makeFuncE rfl rfl) ?_
  -- stop: op  2 t7 := (call (Call (value f207) (t5 t6) (170 267)))   <0 1>   45
  refine JL_keep b3 noFp ?_
  refine JL_step rfl rfl rfl (jo_callv rfl rfl Tryz.call207 rfl (hcf b3)) fun _ => ?_
  refine JL_pd rfl (det_not rfl) ?_
  refine JL_pd rfl (det_assign rfl) ?_
  refine JL_nil ?_
  refine JE_seq ?_
  refine JC_ret ?_
  -- stop: out
  refine JE_out (.inl rfl) () (results1 Tryz.results154 (res_tmp rfl)) (by simp [List.all_eq_not_any_not]) (List.Perm.refl _) (fun _ _ => trivial)
set_option maxRecDepth 100000 in
theorem indexFuncU_j (p : Int → Bool) (F : Nat) (fs cs : List Value) (Kf : World → Prop) (eF : ∀ args w, (callFunc F args).run Tryz.prog w = .ok (.enter F args) w) (a : Option Addr) (cap : Nat) (xs : List Int) (hF : ∀ x ∈ xs, Cv Tryz.prog F (fs ++ [.int .u8 x] ++ cs) Kf (.bool (p x))) (hl : xs.length ≤ 9223372036854775807) :
    Cv Tryz.prog 211 [.slice a xs.length cap, .func (.func F) fs.toArray cs.toArray] (KAnd (KSl a xs.length cap encB xs) Kf) (I (idxOf p xs)) := by
  refine Cx_of Tryz.func211 rfl Tryz.ntmps211 rfl fun w0 M0 => ?_
  refine JC_seq ?_
  refine JC_region ?_
  refine JL_pd rfl (det_assign rfl) ?_
  refine JL_nil ?_
  refine JE_seq ?_
  refine JC_seq ?_
  refine JC_seq ?_
  refine JC_region ?_
  refine JL_pd rfl (det_move rfl) ?_
  refine JL_pd rfl (det_len rfl Tryz.runUnderlying220) ?_
  refine JL_pd rfl (det_move rfl) ?_
  refine JL_nil ?_
  refine JE_seq ?_
  refine JC_block ?_
  -- stop: loop
  refine JC_loopF (γ := Nat) (fun i => i ≤ xs.length ∧ (xs.take i).any p = false) (fun i => [(8, I i)]) (fun _ => []) (fun i => xs.length - i) 0 ⟨Nat.zero_le _, rfl⟩ (stsub_consI rfl rfl stsub_nil) ht_nil ?_
  rintro i ⟨hi, hno⟩ K hK
  dsimp only [List.cons_append, List.nil_append]
  refine JC_seq ?_
  refine JC_region ?_
  refine JL_pd rfl (det_lss rfl rfl) ?_
  refine JL_nil ?_
  refine JE_seq ?_
  refine JC_seq ?_
  -- stop: cond
  refine JC_if rfl (fun h1 => ?_) (fun h1 => ?_)
  · have hi2 : i < xs.length := by omega
    refine JC_skip ?_
    refine JE_seq ?_
    refine JC_seq ?_
    refine JC_block ?_
    refine JC_seq ?_
    refine JC_region ?_
    refine JL_pd rfl (det_move rfl) ?_
    refine JL_pd rfl (det_assign rfl) ?_
    refine JL_nil ?_
    refine JE_seq ?_
    refine JC_seq ?_
    refine JC_region ?_
    refine JL_pd rfl (det_move rfl) ?_
    refine JL_pd rfl (det_move rfl) ?_
    refine JL_pd rfl (det_move rfl) ?_
    refine JL_dt rfl (det_indexAddr rfl rfl (by first | rfl | omega) (by first | assumption | omega | decide) Tryz.runUnderlying220 Tryz.sizeOf5) ?_
    refine JL_dt rfl (det_loadE rfl (by first | assumption | omega | decide) Tryz.isAgg5 rfl rfl) ?_
    -- stop: op  5 t16 := (call (Call (value t11) (t15) (5)))   <0 4>   109
    refine JL_step rfl rfl rfl (jo_callv rfl rfl eF rfl (hF xs[i] (List.getElem_mem hi2))) fun _ => ?_
    refine JL_nil ?_
    refine JE_seq ?_
    -- stop: cond
    refine JC_cond rfl (fun h2 => ?_) (fun h2 => ?_)
    · refine JC_seq ?_
      refine JC_region ?_
      refine JL_pd rfl (det_move rfl) ?_
      refine JL_pd rfl (det_assign rfl) ?_
      refine JL_nil ?_
      refine JE_seq ?_
      refine JC_ret ?_
      refine JE_block_ret ?_
      refine JE_seq_ret ?_
      refine JE_then_ret ?_
      refine JE_block_ret ?_
      refine JE_seq_ret ?_
      -- stop: out
      refine JE_out (.inl rfl) () (results1 Tryz.results211 (res_tmp rfl)) (by rw [idxOf_hit hi2 hno h2]) (List.Perm.refl _) (fun _ _ => trivial)
    · refine JC_skip ?_
      refine JE_block ?_
      refine JE_seq ?_
      refine JC_region ?_
      refine JL_pd rfl (det_add rfl rfl ⟨by omega, by omega⟩) ?_
      refine JL_pd rfl (det_move rfl) ?_
      refine JL_nil ?_
      -- stop: end
      refine JE_roundF hK (i + 1) ⟨by omega, by rw [take_snoc hi2, List.any_append, hno]; simp [h2]⟩ (by omega) (stsub_consI rfl (by omega) stsub_nil) ht_nil
  · refine JC_exit ?_
    refine JE_seq_exit ?_
    refine JE_then_exit ?_
    refine JE_block_here ?_
    refine JE_seq ?_
    refine JC_seq ?_
    refine JC_region ?_
    refine JL_pd rfl (det_assign rfl) ?_
    refine JL_nil ?_
    refine JE_seq ?_
    refine JC_ret ?_
    -- stop: out
    obtain rfl : i = xs.length := by omega
    rw [List.take_length] at hno
    refine JE_out (.inl rfl) () (results1 Tryz.results211 (res_tmp rfl)) (by rw [idxOf_none hno]) (List.Perm.refl _) (fun _ _ => trivial)
theorem containsFuncU_j (p : Int → Bool) (F : Nat) (fs cs : List Value) (Kf : World → Prop) (eF : ∀ args w, (callFunc F args).run Tryz.prog w = .ok (.enter F args) w) (a : Option Addr) (cap : Nat) (xs : List Int) (hF : ∀ x ∈ xs, Cv Tryz.prog F (fs ++ [.int .u8 x] ++ cs) Kf (.bool (p x))) (hl : xs.length ≤ 9223372036854775807) :
    Cv Tryz.prog 159 [.slice a xs.length cap, .func (.func F) fs.toArray cs.toArray] (KAnd (KSl a xs.length cap encB xs) Kf) (.bool (xs.any p)) := by
  refine Cx_of Tryz.func159 rfl Tryz.ntmps159 rfl fun w0 M0 => ?_
  refine JC_seq ?_
  refine JC_region ?_
  refine JL_pd rfl (det_assign rfl) ?_
  refine JL_nil ?_
  refine JE_seq ?_
  refine JC_seq ?_
  refine JC_region ?_
  refine JL_pd rfl (det_move rfl) ?_
  refine JL_pd rfl (det_move rfl) ?_
  -- stop: op  2 t7 := (call (Call (value f211) (t5 t6) (220 224)))   <0 1>   125
  refine JL_step rfl rfl rfl (jo_callv rfl rfl Tryz.call211 rfl (indexFuncU_j p F fs cs Kf eF a cap xs hF hl)) fun _ => ?_
  refine JL_pd rfl (det_geq rfl rfl) ?_
  refine JL_pd rfl (det_assign rfl) ?_
  refine JL_nil ?_
  refine JE_seq ?_
  refine JC_ret ?_
  -- stop: out
  refine JE_out (.inl rfl) () (results1 Tryz.results159 (res_tmp rfl)) (by rw [show decide ((0 : Int) ≤ idxOf p xs) = xs.any p from idxOf_any]) (List.Perm.refl _) (fun _ _ => trivial)
theorem allU_1 (p : Int → Bool) (F : Nat) (fs cs : List Value) (Kf : World → Prop) (eF : ∀ args w, (callFunc F args).run Tryz.prog w = .ok (.enter F args) w) (x : Int) (hF : Cv Tryz.prog F (fs ++ [.int .u8 x] ++ cs) Kf (.bool (p x))) (b : Nat) :
    Cv Tryz.prog 160 [.int .u8 x, .pointer (some ⟨b, 0, none⟩)] (KAnd (KBox b [.func (.func F) fs.toArray cs.toArray]) Kf) (.bool (!p x)) := by
  refine Cx_of Tryz.func160 rfl Tryz.ntmps160 rfl fun w0 M0 => ?_
  refine JC_seq ?_
  refine JC_region ?_
  refine JL_pd rfl (det_assign rfl) ?_
  refine JL_nil ?_
  refine JE_seq ?_
  refine JC_seq ?_
  refine JC_region ?_
  refine JL_dt rfl (det_loadK rfl Tryz.isAgg224 rfl) ?_
  refine JL_pd rfl (det_move rfl) ?_
  -- stop: op  2 t6 := (call (Call (value t4) (t5) (5)))   <0 1>   45
  refine JL_step rfl rfl rfl (jo_callv rfl rfl eF rfl (hF)) fun _ => ?_
  refine JL_pd rfl (det_not rfl) ?_
  refine JL_pd rfl (det_assign rfl) ?_
  refine JL_nil ?_
  refine JE_seq ?_
  refine JC_ret ?_
  -- stop: out
  refine JE_out (.inl rfl) () (results1 Tryz.results160 (res_tmp rfl)) rfl (List.Perm.refl _) (fun _ _ => trivial)
theorem allU_j (p : Int → Bool) (F : Nat) (fs cs : List Value) (Kf : World → Prop) (eF : ∀ args w, (callFunc F args).run Tryz.prog w = .ok (.enter F args) w) (a : Option Addr) (cap : Nat) (xs : List Int) (hF : ∀ x ∈ xs, Cv Tryz.prog F (fs ++ [.int .u8 x] ++ cs) Kf (.bool (p x))) (hl : xs.length ≤ 9223372036854775807) :
    Cv Tryz.prog 119 [.slice a xs.length cap, .func (.func F) fs.toArray cs.toArray] (KAnd (KSl a xs.length cap encB xs) Kf) (.bool (xs.all p)) := by
  have hcf := fun b3 : Nat => containsFuncU_j (fun x => !p x) 160 [] [.pointer (some ⟨b3, 0, none⟩)] _ Tryz.call160 a cap xs (fun x hx => allU_1 p F fs cs Kf eF x (hF x hx) b3) hl
  refine Cx_of Tryz.func119 rfl Tryz.ntmps119 rfl fun w0 M0 => ?_
  refine JC_seq ?_
  refine JC_region ?_
  refine JL_step rfl rfl rfl (jo_box rfl rfl) fun b3 => ?_
  refine JL_pd rfl (det_assign rfl) ?_
  refine JL_nil ?_
  refine JE_seq ?_
  refine JC_seq ?_
  refine JC_region ?_
  refine JL_pd rfl (det_move rfl) ?_
  refine JL_pd rfl (det_makeFuncE rfl rfl) ?_
  -- stop: op  2 t7 := (call (Call (value f159) (t5 t6) (220 224)))   <0 1>   45
  refine JL_keep b3 noFp ?_
  refine JL_step rfl rfl rfl (jo_callv rfl rfl Tryz.call159 rfl (hcf b3)) fun _ => ?_
  refine JL_pd rfl (det_not rfl) ?_
  refine JL_pd rfl (det_assign rfl) ?_
  refine JL_nil ?_
  refine JE_seq ?_
  refine JC_ret ?_
  -- stop: out
  refine JE_out (.inl rfl) () (results1 Tryz.results119 (res_tmp rfl)) (by simp [List.all_eq_not_any_not]) (List.Perm.refl _) (fun _ _ => trivial)
theorem CheckLeague_j (n : Int) (a : Option Addr) (c : Nat) (l : List Gm) : Cv Tryz.prog 117 [.agg #[I n, .slice a l.length c]] (KSl a l.length c encG l) (I (lgE n l)) := by
  by_cases hn : inI n 2 6 = true
  · have hn2 := inI_iff.1 hn
    have htj := teams_j n
    rw [hn] at htj
    refine Cx_of Tryz.func117 rfl Tryz.ntmps117 rfl fun w0 M0 => ?_
    refine JC_seq ?_
    refine JC_region ?_
    refine JL_step rfl rfl rfl (jo_box rfl rfl) fun b1 => ?_
    refine JL_pd rfl (det_assign rfl) ?_
    refine JL_nil ?_
    refine JE_seq ?_
    refine JC_seq ?_
    refine JC_block ?_
    refine JC_seq ?_
    refine JC_region ?_
    refine JL_pd rfl (det_fieldAddr rfl fo_172_1) ?_
    refine JL_dt rfl (det_loadK rfl Tryz.isAgg170 rfl) ?_
    refine JL_pd rfl (det_len rfl Tryz.runUnderlying170) ?_
    refine JL_pd rfl (det_gtr rfl rfl) ?_
    refine JL_pd rfl (det_assign rfl) ?_
    refine JL_nil ?_
    refine JE_seq ?_
    -- stop: cond
    refine JC_pure (p := l.length ≤ 9223372036854775807) (by intro w h; exact h.1.bd) fun hz => ?_
    have hallj := allG_j (gmOk n) 155 [.agg #[I n, .slice a l.length c]] [] KTrue Tryz.call155 a c l (fun x _ => game_j n a l.length c x (by omega)) hz
    refine JC_if rfl (fun h1 => ?_) (fun h1 => ?_)
    · refine JC_seq ?_
      refine JC_region ?_
      refine JL_pd rfl (det_assign rfl) ?_
      refine JL_nil ?_
      refine JE_seq ?_
      refine JC_ret ?_
      refine JE_block_ret ?_
      refine JE_seq_ret ?_
      -- stop: out
      refine JE_out (.inl rfl) () (results1 Tryz.results117 (res_tmp rfl)) (by unfold lgE; rw [if_pos (by omega)]) (List.Perm.refl _) (fun _ _ => trivial)
    · refine JC_seq ?_
      refine JC_region ?_
      refine JL_pd rfl (det_fieldAddr rfl fo_172_0) ?_
      refine JL_dt rfl (det_loadK rfl Tryz.isAgg3 rfl) ?_
      refine JL_step rfl rfl rfl (jo_callv rfl rfl Tryz.call153 rfl (htj)) fun _ => ?_
      refine JL_pd rfl (det_not rfl) ?_
      refine JL_pd rfl (det_move rfl) ?_
      -- stop: guard 4
      refine JL_join1 8 8 (.bool (!(l.all (gmOk n)))) (fun hj => ?_) ?_
      · refine JL_split (d0 := 13) rfl (fun q1 => ?_) (fun q1 => ?_)
        · refine JL_skip rfl rfl q1 rfl ?_
          refine JL_skip rfl rfl q1 rfl ?_
          refine JL_skip rfl rfl q1 rfl ?_
          refine JL_skip rfl rfl q1 rfl ?_
          refine JL_skip rfl rfl q1 rfl ?_
          refine JL_skip rfl rfl q1 rfl ?_
          refine JL_pd rfl (det_pick_t rfl q1 rfl) ?_
          refine JL_pd rfl (det_assign rfl) ?_
          exact hj (by kernel_rfl) (stsub_consB rfl (by clear hj; first | rfl | (simp only [q1, Bool.and_true, Bool.true_and, Bool.false_and, Bool.and_false, Bool.or_true, Bool.true_or, Bool.or_false, Bool.false_or, Bool.not_true, Bool.not_false]; done) | (simp [q1]; done) | (simp at q1; done) | (simp [q1] <;> omega) | (exfalso; simp at q1; omega)) stsub_nil)
        · refine JL_guard rfl rfl q1 ?_
          refine JL_pd rfl (det_fieldAddr rfl fo_172_1) ?_
          refine JL_guard rfl rfl q1 ?_
          refine JL_dt rfl (det_loadK rfl Tryz.isAgg170 rfl) ?_
          refine JL_guard rfl rfl q1 ?_
          refine JL_dt rfl (det_loadKA rfl Tryz.isAgg172 Tryz.sizeOf172 rfl rfl) ?_
          refine JL_guard rfl rfl q1 ?_
          refine JL_pd rfl (det_makeFuncE rfl rfl) ?_
          refine JL_guard rfl rfl q1 ?_
          refine JL_step rfl rfl rfl (jo_callv rfl rfl Tryz.call154 rfl (hallj)) fun _ => ?_
          refine JL_guard rfl rfl q1 ?_
          refine JL_pd rfl (det_not rfl) ?_
          refine JL_pd rfl (det_pick_f rfl q1 rfl) ?_
          refine JL_pd rfl (det_assign rfl) ?_
          exact hj (by kernel_rfl) (stsub_consB rfl (by clear hj; first | rfl | (simp only [q1, Bool.and_true, Bool.true_and, Bool.false_and, Bool.and_false, Bool.or_true, Bool.true_or, Bool.or_false, Bool.false_or, Bool.not_true, Bool.not_false]; done) | (simp [q1]; done) | (simp at q1; done) | (simp [q1] <;> omega) | (exfalso; simp at q1; omega)) stsub_nil)
      refine JL_nil ?_
      refine JE_seq ?_
      -- stop: cond
      refine JC_cond rfl (fun h2 => ?_) (fun h2 => ?_)
      · refine JC_seq ?_
        refine JC_region ?_
        refine JL_pd rfl (det_assign rfl) ?_
        refine JL_nil ?_
        refine JE_seq ?_
        refine JC_ret ?_
        refine JE_block_ret ?_
        refine JE_seq_ret ?_
        -- stop: out
        refine JE_out (.inl rfl) () (results1 Tryz.results117 (res_tmp rfl)) (by unfold lgE; rw [if_neg (by omega), if_pos (by rw [hn, Bool.true_and]; simpa using h2)]) (List.Perm.refl _) (fun _ _ => trivial)
      · refine JC_skip ?_
        refine JE_block ?_
        refine JE_seq ?_
        refine JC_seq ?_
        refine JC_region ?_
        refine JL_pd rfl (det_assign rfl) ?_
        refine JL_nil ?_
        refine JE_seq ?_
        refine JC_ret ?_
        -- stop: out
        refine JE_out (.inl rfl) () (results1 Tryz.results117 (res_tmp rfl)) (by unfold lgE; rw [if_neg (by omega), if_neg (by rw [hn, Bool.true_and]; simpa using h2)]) (List.Perm.refl _) (fun _ _ => trivial)
  · rw [Bool.not_eq_true] at hn
    have htj := teams_j n
    rw [hn] at htj
    refine Cx_of Tryz.func117 rfl Tryz.ntmps117 rfl fun w0 M0 => ?_
    refine JC_seq ?_
    refine JC_region ?_
    refine JL_step rfl rfl rfl (jo_box rfl rfl) fun b1 => ?_
    refine JL_pd rfl (det_assign rfl) ?_
    refine JL_nil ?_
    refine JE_seq ?_
    refine JC_seq ?_
    refine JC_block ?_
    refine JC_seq ?_
    refine JC_region ?_
    refine JL_pd rfl (det_fieldAddr rfl fo_172_1) ?_
    refine JL_dt rfl (det_loadK rfl Tryz.isAgg170 rfl) ?_
    refine JL_pd rfl (det_len rfl Tryz.runUnderlying170) ?_
    refine JL_pd rfl (det_gtr rfl rfl) ?_
    refine JL_pd rfl (det_assign rfl) ?_
    refine JL_nil ?_
    refine JE_seq ?_
    -- stop: cond
    refine JC_pure (p := l.length ≤ 9223372036854775807) (by intro w h; exact h.1.bd) fun hz => ?_
    refine JC_if rfl (fun h1 => ?_) (fun h1 => ?_)
    · refine JC_seq ?_
      refine JC_region ?_
      refine JL_pd rfl (det_assign rfl) ?_
      refine JL_nil ?_
      refine JE_seq ?_
      refine JC_ret ?_
      refine JE_block_ret ?_
      refine JE_seq_ret ?_
      -- stop: out
      refine JE_out (.inl rfl) () (results1 Tryz.results117 (res_tmp rfl)) (by unfold lgE; rw [if_pos (by omega)]) (List.Perm.refl _) (fun _ _ => trivial)
    · refine JC_seq ?_
      refine JC_region ?_
      refine JL_pd rfl (det_fieldAddr rfl fo_172_0) ?_
      refine JL_dt rfl (det_loadK rfl Tryz.isAgg3 rfl) ?_
      refine JL_step rfl rfl rfl (jo_callv rfl rfl Tryz.call153 rfl (htj)) fun _ => ?_
      refine JL_pd rfl (det_not rfl) ?_
      refine JL_pd rfl (det_move rfl) ?_
      -- stop: guard 4
      refine JL_is (d0 := 13) true rfl (by rfl) (fun k1 => ?_)
      refine JL_skip rfl rfl k1 rfl ?_
      refine JL_skip rfl rfl k1 rfl ?_
      refine JL_skip rfl rfl k1 rfl ?_
      refine JL_skip rfl rfl k1 rfl ?_
      refine JL_skip rfl rfl k1 rfl ?_
      refine JL_skip rfl rfl k1 rfl ?_
      refine JL_pd rfl (det_pick_t rfl k1 rfl) ?_
      refine JL_pd rfl (det_assign rfl) ?_
      refine JL_nil ?_
      refine JE_seq ?_
      refine JC_condT rfl rfl ?_
      refine JC_seq ?_
      refine JC_region ?_
      refine JL_pd rfl (det_assign rfl) ?_
      refine JL_nil ?_
      refine JE_seq ?_
      refine JC_ret ?_
      refine JE_block_ret ?_
      refine JE_seq_ret ?_
      -- stop: out
      refine JE_out (.inl rfl) () (results1 Tryz.results117 (res_tmp rfl)) (by unfold lgE; rw [if_neg (by omega), if_pos (by rw [hn, Bool.false_and])]) (List.Perm.refl _) (fun _ _ => trivial)
end Go.Proofs.YthpkgabckklojaaGreat.Bl

/- League: the points of all teams. -/
namespace Go.Proofs.YthpkgabckklojaaGreat.Bl
open Go.RowKit Go.Shelf

def updP (f : Nat → Int) (i : Nat) (x : Int) : Nat → Int := fun j => if j = i then x else f j
def encP (n : Nat) (f : Nat → Int) : List Value := (List.range n).map fun i => I (f i)
theorem encP_len (n : Nat) (f : Nat → Int) : (encP n f).length = n := by simp [encP]
theorem encP_get {n : Nat} {f : Nat → Int} {i : Nat} (h : i < n) : (encP n f)[0 + i * 1]? = some (I (f i)) := by
  rw [Nat.zero_add, Nat.mul_one]; simp [encP, h]
theorem encP_set (n : Nat) (f : Nat → Int) (i : Nat) (x : Int) : splice (encP n f) (0 + i * 1) [I x] = encP n (updP f i x) := by
  rw [Nat.zero_add, Nat.mul_one]
  show (encP n f).set i (I x) = _
  apply List.ext_getElem?
  intro j
  rw [List.getElem?_set]
  by_cases hj : j < n
  · have e1 : (encP n (updP f i x))[j]? = some (I (updP f i x j)) := by simp [encP, hj]
    have e2 : (encP n f)[j]? = some (I (f j)) := by simp [encP, hj]
    rw [e1, e2, encP_len]
    by_cases e : i = j
    · subst e; rw [if_pos rfl, if_pos hj]; unfold updP; rw [if_pos rfl]
    · rw [if_neg e]; unfold updP; rw [if_neg (Ne.symm e)]
  · have e1 : (encP n (updP f i x))[j]? = none := List.getElem?_eq_none (by rw [encP_len]; omega)
    have e2 : (encP n f)[j]? = none := List.getElem?_eq_none (by rw [encP_len]; omega)
    rw [e1, e2, encP_len]
    split
    · rw [if_neg (by omega)]
    · rfl
def ptG (g : Gm) (t : Nat) : Int := (if g.a = (t : Int) then gv1 g else 0) + (if g.b = (t : Int) then gv2 g else 0)
def sumF (l : List Gm) (t : Nat) : Int := (l.map fun g => ptG g t).sum
theorem sumF_snoc (l : List Gm) (g : Gm) (t : Nat) : sumF (l ++ [g]) t = sumF l t + ptG g t := by simp [sumF]
theorem gv_bd (g : Gm) : 0 ≤ gv1 g ∧ 0 ≤ gv2 g ∧ gv1 g + gv2 g ≤ 2 := by
  unfold gv1 gv2
  split
  · omega
  · split
    · omega
    · split <;> omega
theorem ptG_bd (g : Gm) (t : Nat) : 0 ≤ ptG g t ∧ ptG g t ≤ 2 := by
  have := gv_bd g
  unfold ptG
  split <;> split <;> omega
theorem sumF_bd (l : List Gm) (t : Nat) : 0 ≤ sumF l t ∧ sumF l t ≤ 2 * (l.length : Int) := by
  induction l with
  | nil => simp [sumF]
  | cons g l ih =>
    have := ptG_bd g t
    have e : sumF (g :: l) t = ptG g t + sumF l t := by simp [sumF]
    rw [e, List.length_cons]; omega
theorem sum_step {n : Int} {g : Gm} (l : List Gm) (V : VGm n g) (na nb : Nat) (ha : g.a = (na : Int)) (hb : g.b = (nb : Int)) : updP (updP (sumF l) na (sumF l na + gv1 g)) nb (sumF l nb + gv2 g) = sumF (l ++ [g]) := by
  have hne := V.ne
  funext t
  rw [sumF_snoc]
  unfold updP ptG
  by_cases h1 : t = nb
  · subst h1
    rw [if_pos rfl, if_neg (by omega), if_pos hb]; omega
  · rw [if_neg h1, if_neg (show ¬ g.b = (t : Int) by omega)]
    by_cases h2 : t = na
    · subst h2; rw [if_pos rfl, if_pos ha]; omega
    · rw [if_neg h2, if_neg (show ¬ g.a = (t : Int) by omega)]; omega
set_option maxRecDepth 100000 in
theorem sums_j (n : Int) (a : Option Addr) (c : Nat) (l : List Gm) (V : VL n l) : Cv Tryz.prog 121 [.agg #[I n, .slice a l.length c]] (KSl a l.length c encG l) (.agg (encP 6 (sumF l)).toArray) := by
  have hl := V.l1
  have hn := V.n1
  refine Cx_of Tryz.func121 rfl Tryz.ntmps121 rfl fun w0 M0 => ?_
  refine JC_seq ?_
  refine JC_region ?_
  refine JL_step rfl rfl rfl (jo_box rfl rfl) fun b1 => ?_
  refine JL_step rfl rfl rfl (jo_alloc0 Tryz.zeroValue226 rfl) fun b2 => ?_
  refine JL_nil ?_
  refine JE_seq ?_
  refine JC_seq ?_
  refine JC_seq ?_
  refine JC_region ?_
  refine JL_pd rfl (det_fieldAddr rfl fo_172_1) ?_
  refine JL_dt rfl (det_loadK rfl Tryz.isAgg170 rfl) ?_
  refine JL_pd rfl (det_len rfl Tryz.runUnderlying170) ?_
  refine JL_pd rfl (det_move rfl) ?_
  refine JL_nil ?_
  refine JE_seq ?_
  refine JC_block ?_
  -- stop: loop
  refine JC_loopF (γ := Nat) (fun i => i ≤ l.length) (fun i => [(10, I i)]) (fun i => [bx b2 (encP 6 (sumF (l.take i)))]) (fun i => l.length - i) 0 (Nat.zero_le _) (stsub_consI rfl rfl stsub_nil) (ht_bx rfl ht_nil) ?_
  intro i hi K hK
  dsimp only [List.cons_append, List.nil_append]
  refine JC_seq ?_
  refine JC_region ?_
  refine JL_pd rfl (det_lss rfl rfl) ?_
  refine JL_nil ?_
  refine JE_seq ?_
  refine JC_seq ?_
  -- stop: cond
  refine JC_if rfl (fun h1 => ?_) (fun h1 => ?_)
  · have hi2 : i < l.length := by omega
    have Vg := V.g _ (List.getElem_mem hi2)
    have hsn : l.take (i + 1) = l.take i ++ [l[i]] := List.take_succ_eq_append_getElem hi2
    obtain ⟨na, ha⟩ : ∃ na : Nat, l[i].a = (na : Int) := ⟨l[i].a.toNat, by have := Vg.a0; omega⟩
    obtain ⟨nb, hb⟩ : ∃ nb : Nat, l[i].b = (nb : Int) := ⟨l[i].b.toNat, by have := Vg.b0; omega⟩
    have hna : na < 6 := by have := Vg.a1; omega
    have hnb : nb < 6 := by have := Vg.b1; omega
    have hne : nb ≠ na := fun e => Vg.ne (by rw [ha, hb, e])
    have bd := fun t => sumF_bd (l.take i) t
    have bg := gv_bd l[i]
    have ba := bd na
    have bb := bd nb
    rw [List.length_take] at ba bb
    have hup : updP (sumF (l.take i)) na (sumF (l.take i) na + gv1 l[i]) nb = sumF (l.take i) nb := by unfold updP; rw [if_neg hne]
    have hst := sum_step (l.take i) Vg na nb ha hb
    rw [← hsn] at hst
    refine JC_skip ?_
    refine JE_seq ?_
    refine JC_seq ?_
    refine JC_block ?_
    refine JC_seq ?_
    refine JC_region ?_
    refine JL_dt rfl (det_indexAddr rfl rfl (by first | rfl | omega) (by first | assumption | omega | decide) Tryz.runUnderlying170 Tryz.sizeOf169) ?_
    refine JL_dt rfl (det_loadEA rfl (by first | assumption | omega | decide) Tryz.isAgg169 Tryz.sizeOf169 rfl rfl rfl) ?_
    refine JL_step rfl rfl rfl (jo_alloc0 Tryz.zeroValue169 rfl) fun b4 => ?_
    refine JL_step0 rfl rfl (jo_store rfl rfl rfl (by first | (simp only [splice_norm]; done) | (simp only [splice_norm]; rfl) | rfl) Tryz.sizeOf169 rfl rfl) fun _ => ?_
    refine JL_nil ?_
    refine JE_seq ?_
    refine JC_seq ?_
    refine JC_region ?_
    refine JL_dt rfl (det_loadKA rfl Tryz.isAgg169 Tryz.sizeOf169 rfl rfl) ?_
    refine JL_step rfl rfl rfl (jo_callv rfl rfl Tryz.call161 rfl (gives_j _)) fun _ => ?_
    refine JL_pd rfl (det_move rfl) ?_
    refine JL_pd rfl (det_extract rfl rfl) ?_
    refine JL_pd rfl (det_extract rfl rfl) ?_
    refine JL_pd rfl (det_assign rfl) ?_
    refine JL_pd rfl (det_assign rfl) ?_
    refine JL_nil ?_
    refine JE_seq ?_
    refine JC_seq ?_
    refine JC_region ?_
    refine JL_pd rfl (det_fieldAddr rfl fo_169_0) ?_
    refine JL_dt rfl (det_loadK rfl Tryz.isAgg3 rfl) ?_
    refine JL_pd rfl (det_indexArr (i := na) rfl rfl ha hna Tryz.runUnderlying226 Tryz.sizeOf3) ?_
    refine JL_dt rfl (det_loadK rfl Tryz.isAgg3 (encP_get hna)) ?_
    refine JL_pd rfl (det_move rfl) ?_
    refine JL_pd rfl (det_add rfl rfl ⟨by omega, by omega⟩) ?_
    refine JL_pd rfl (det_indexArr (i := na) rfl rfl ha hna Tryz.runUnderlying226 Tryz.sizeOf3) ?_
    refine JL_step0 rfl rfl (jo_store rfl rfl rfl (encP_set 6 _ na _) Tryz.sizeOf3 (by rw [encP_len, Nat.ble_eq]; simp only [List.length_cons, List.length_nil]; omega) rfl) fun _ => ?_
    refine JL_nil ?_
    refine JE_seq ?_
    refine JC_region ?_
    refine JL_pd rfl (det_fieldAddr rfl fo_169_1) ?_
    refine JL_dt rfl (det_loadK rfl Tryz.isAgg3 rfl) ?_
    refine JL_pd rfl (det_indexArr (i := nb) rfl rfl hb hnb Tryz.runUnderlying226 Tryz.sizeOf3) ?_
    refine JL_dt rfl (det_loadK rfl Tryz.isAgg3 ((encP_get hnb).trans (by rw [hup]))) ?_
    refine JL_pd rfl (det_move rfl) ?_
    refine JL_pd rfl (det_add rfl rfl ⟨by omega, by omega⟩) ?_
    refine JL_pd rfl (det_indexArr (i := nb) rfl rfl hb hnb Tryz.runUnderlying226 Tryz.sizeOf3) ?_
    refine JL_step0 rfl rfl (jo_store rfl rfl rfl (encP_set 6 _ nb _) Tryz.sizeOf3 (by rw [encP_len, Nat.ble_eq]; simp only [List.length_cons, List.length_nil]; omega) rfl) fun _ => ?_
    refine JL_nil ?_
    refine JE_block ?_
    refine JE_seq ?_
    refine JC_region ?_
    refine JL_pd rfl (det_add rfl rfl ⟨by omega, by omega⟩) ?_
    refine JL_pd rfl (det_move rfl) ?_
    refine JL_nil ?_
    -- stop: end
    refine JE_roundF hK (i + 1) (by omega) (by omega) (stsub_consI rfl (by omega) stsub_nil) (ht_bx (by rw [hst]) ht_nil)
  · obtain rfl : i = l.length := by omega
    rw [List.take_length]
    refine JC_exit ?_
    refine JE_seq_exit ?_
    refine JE_then_exit ?_
    refine JE_block_here ?_
    refine JE_seq ?_
    refine JC_seq ?_
    refine JC_region ?_
    refine JL_dt rfl (det_loadKA rfl Tryz.isAgg226 Tryz.sizeOf226 rfl rfl) ?_
    refine JL_step0 rfl rfl (jo_store rfl rfl rfl (by first | (simp only [splice_norm]; done) | (simp only [splice_norm]; rfl) | rfl) Tryz.sizeOf226 rfl rfl) fun _ => ?_
    refine JL_nil ?_
    refine JE_seq ?_
    refine JC_ret ?_
    -- stop: out
    refine JE_out (.inl rfl) () (results1 Tryz.results121 (res_box rfl Tryz.isAgg226 Tryz.sizeOf226 rfl)) rfl (List.Perm.refl _) (fun _ _ => trivial)
end Go.Proofs.YthpkgabckklojaaGreat.Bl

/- League: the games that are open. -/
namespace Go.Proofs.YthpkgabckklojaaGreat.Bl
open Go.RowKit Go.Shelf

theorem indexFuncG_x (p : Gm → Bool) (F : Nat) (eF : ∀ args w, (callFunc F args).run Tryz.prog w = .ok (.enter F args) w) (hF : ∀ x : Gm, Cv Tryz.prog F [.agg #[I x.a, I x.b, I x.pa, I x.pb, .bool x.op]] KTrue (.bool (p x))) (v : Value) (xs : List Gm) (hl : xs.length ≤ 1000) :
    Cx Tryz.prog 210 [v, .func (.func F) #[] #[]] [ow v 169 5 xs.length (xs.flatMap encG)] KTrue (fun _ : Unit => I (idxOf p xs)) (fun _ => [ow v 169 5 xs.length (xs.flatMap encG)]) (fun _ => KTrue) :=
  Cx.lendOw (args := fun u => [u, .func (.func F) #[] #[]]) v xs fun a cap => (indexFuncG_j p F [] [] KTrue eF a cap xs (fun x _ => hF x) (by omega)).mono (fun _ h => h) fun _ _ h => h
abbrev keptF (p : Gm → Bool) (xs : List Gm) : List Gm := xs.filter fun x => !p x
theorem kept_snoc (p : Gm → Bool) {xs : List Gm} {j : Nat} (h : j < xs.length) : keptF p (xs.take (j + 1)) = if p xs[j] = true then keptF p (xs.take j) else keptF p (xs.take j) ++ [xs[j]] := by
  have hs : xs.take (j + 1) = xs.take j ++ [xs[j]] := List.take_succ_eq_append_getElem h
  rw [hs, keptF, List.filter_append]
  by_cases hp : p xs[j] = true
  · rw [if_pos hp]; simp [hp]
  · rw [if_neg hp]; simp [hp]
theorem kept_len (p : Gm → Bool) (xs : List Gm) (j : Nat) : (keptF p (xs.take j)).length ≤ j := by
  have := List.length_filter_le (fun x => !p x) (xs.take j)
  rw [List.length_take] at this
  show (List.filter _ _).length ≤ j
  omega
theorem kept_all {p : Gm → Bool} {xs : List Gm} (h : xs.any p = false) : keptF p xs = xs := by
  rw [List.any_eq_false] at h
  exact List.filter_eq_self.2 fun x hx => by have := h x hx; simpa using this
structure DlI (p : Gm → Bool) (xs : List Gm) (j : Nat) (ys : List Gm) : Prop where
  j1 : j ≤ xs.length
  n : ys.length = xs.length
  k : (keptF p (xs.take j)).length < j
  t : ys.take (keptF p (xs.take j)).length = keptF p (xs.take j)
  d : ys.drop j = xs.drop j
theorem DlI.get {p : Gm → Bool} {xs ys : List Gm} {j : Nat} (h : DlI p xs j ys) (hj : j < xs.length) : ys[j]'(by rw [h.n]; exact hj) = xs[j] := by
  have hn := h.n
  have h1 : (ys.drop j)[0]? = (xs.drop j)[0]? := by rw [h.d]
  rw [List.getElem?_drop, List.getElem?_drop, Nat.add_zero, List.getElem?_eq_getElem hj, List.getElem?_eq_getElem (by omega)] at h1
  exact Option.some.inj h1
theorem DlI.no {p : Gm → Bool} {xs ys : List Gm} {j : Nat} (h : DlI p xs j ys) (hj : j < xs.length) (hp : p xs[j] = true) : DlI p xs (j + 1) ys := by
  have e := kept_snoc p hj
  rw [if_pos hp] at e
  have hk := h.k
  refine ⟨hj, h.n, by rw [e]; omega, by rw [e]; exact h.t, ?_⟩
  rw [← List.drop_drop, h.d, List.drop_drop]
theorem DlI.yes {p : Gm → Bool} {xs ys : List Gm} {j : Nat} (h : DlI p xs j ys) (hj : j < xs.length) (hp : p xs[j] ≠ true) : DlI p xs (j + 1) (ys.set (keptF p (xs.take j)).length xs[j]) := by
  have e := kept_snoc p hj
  rw [if_neg hp] at e
  have hk := h.k
  have hn := h.n
  refine ⟨hj, by rw [List.length_set]; exact hn, by rw [e]; simp; omega, ?_, ?_⟩
  · rw [e, List.length_append, List.length_singleton, List.take_succ_eq_append_getElem (by rw [List.length_set]; omega), List.take_set_of_le (Nat.le_refl _), h.t]
    simp
  · rw [List.drop_set_of_lt (by omega), ← List.drop_drop, h.d, List.drop_drop]
theorem idx_cases {α : Type} (p : α → Bool) (xs : List α) : (idxOf p xs = -1 ∧ xs.any p = false) ∨ ∃ k : Nat, ∃ h : k < xs.length, idxOf p xs = (k : Int) ∧ (xs.take k).any p = false ∧ p xs[k] = true := by
  cases hf : xs.findIdx? p with
  | none =>
    rw [List.findIdx?_eq_none_iff] at hf
    have : xs.any p = false := List.any_eq_false.2 fun x hx => by rw [hf x hx]; decide
    exact .inl ⟨idxOf_none this, this⟩
  | some k =>
    rw [List.findIdx?_eq_some_iff_getElem] at hf
    obtain ⟨h1, h2, h3⟩ := hf
    have hb : (xs.take k).any p = false := List.any_eq_false.2 fun x hx => by
      obtain ⟨i, hi, rfl⟩ := List.getElem_of_mem hx
      rw [List.length_take] at hi
      rw [List.getElem_take]
      exact h3 i (by omega)
    exact .inr ⟨k, h1, idxOf_hit h1 hb h2, hb, h2⟩
theorem splice_keep : ∀ (vs cs : List Value) (o : Nat), (splice cs o vs).take o = cs.take o
  | [], _, _ => rfl
  | v :: vs, cs, o => by
    rw [splice]
    have h := splice_keep vs (cs.set o v) (o + 1)
    have h2 := congrArg (List.take o) h
    rw [List.take_take, List.take_take, Nat.min_eq_left (Nat.le_succ o)] at h2
    rw [h2, List.take_set_of_le (Nat.le_refl _)]
theorem flat_take {α : Type} (enc : α → List Value) {z : Nat} [hz : Rec enc z] (xs : List α) (m : Nat) : (xs.take m).flatMap enc = (xs.flatMap enc).take (m * z) := by
  induction xs generalizing m with
  | nil => simp
  | cons x xs ih =>
    cases m with
    | zero => simp
    | succ m =>
      have hl := hz.len x
      rw [List.take_succ_cons, List.flatMap_cons, List.flatMap_cons, ih, Nat.succ_mul, Nat.add_comm (m * z) z, List.take_append, List.take_of_length_le (l := enc x) (by omega), hl, Nat.add_sub_cancel_left]
set_option maxRecDepth 100000 in
theorem DeleteFunc_j (p : Gm → Bool) (F : Nat) (eF : ∀ args w, (callFunc F args).run Tryz.prog w = .ok (.enter F args) w) (hF : ∀ x : Gm, Cv Tryz.prog F [.agg #[I x.a, I x.b, I x.pa, I x.pb, .bool x.op]] KTrue (.bool (p x))) (v : Value) (xs : List Gm) (hl : xs.length ≤ 1000) :
    Cx Tryz.prog 156 [v, .func (.func F) #[] #[]] [ow v 169 5 xs.length (xs.flatMap encG)] KTrue (fun q : Value => q) (fun q => [ow q 169 5 (keptF p xs).length ((keptF p xs).flatMap encG)]) (fun _ => KTrue) := by
  refine Cx_of Tryz.func156 rfl Tryz.ntmps156 rfl fun w0 M0 => ?_
  refine JC_seq ?_
  refine JC_region ?_
  refine JL_pd rfl (det_assign rfl) ?_
  refine JL_nil ?_
  refine JE_seq ?_
  refine JC_seq ?_
  refine JC_region ?_
  refine JL_pd rfl (det_move rfl) ?_
  refine JL_pd rfl (det_move rfl) ?_
  -- stop: op  2 t10 := (call (Call (value f210) (t8 t9) (170 267)))   <0 1>   242
  refine JL_step rfl rfl rfl (jo_callx rfl rfl Tryz.call210 rfl (indexFuncG_x p F eF hF v xs hl) (pick_perm)) fun x => ?_
  refine JL_pd rfl (det_assign rfl) ?_
  refine JL_nil ?_
  refine JE_seq ?_
  refine JC_seq ?_
  refine JC_seq ?_
  refine JC_region ?_
  refine JL_pd rfl (det_move rfl) ?_
  refine JL_pd rfl (det_eql rfl rfl) ?_
  refine JL_nil ?_
  refine JE_seq ?_
  -- stop: cond
  rcases idx_cases p xs with ⟨hi, ha⟩ | ⟨k0, hk0, hi, hb, hp0⟩
  · skip
    rw [hi]
    refine JC_if rfl (fun h1 => ?_) (fun h1 => ?_)
    · refine JC_seq ?_
      refine JC_region ?_
      refine JL_pd rfl (det_move rfl) ?_
      refine JL_pd rfl (det_assign rfl) ?_
      refine JL_nil ?_
      refine JE_seq ?_
      refine JC_ret ?_
      refine JE_seq_ret ?_
      -- stop: out
      refine JE_out (.inl rfl) v (results1 Tryz.results156 (res_tmp rfl)) rfl (by rw [kept_all ha]) (fun _ _ => trivial)
    · exact absurd rfl h1
  · skip
    rw [hi]
    refine JC_if rfl (fun h1 => ?_) (fun h1 => ?_)
    · exact absurd h1 (by omega)
    refine JC_formS v ?_
    rintro a cap rfl
    refine JC_some (cap := cap) (n := xs.length) a (by omega) ?_
    rintro b rfl
    have hI0 : DlI p xs (k0 + 1) xs := by
      have e := kept_snoc p hk0
      rw [if_pos hp0] at e
      have e2 : keptF p (xs.take k0) = xs.take k0 := kept_all hb
      have e3 : (xs.take k0).length = k0 := by rw [List.length_take]; omega
      rw [e2] at e
      exact ⟨hk0, rfl, by rw [e, e3]; omega, by rw [e, e3], rfl⟩
    have e0 : (keptF p (xs.take (k0 + 1))).length = k0 := by
      have e := kept_snoc p hk0
      rw [if_pos hp0] at e
      have e2 : keptF p (xs.take k0) = xs.take k0 := kept_all hb
      rw [e, e2, List.length_take, Nat.min_eq_left (Nat.le_of_lt hk0)]
    refine JC_skip ?_
    refine JE_seq ?_
    refine JC_seq ?_
    refine JC_seq ?_
    refine JC_region ?_
    refine JL_pd rfl (det_move rfl) ?_
    refine JL_pd rfl (det_add rfl rfl ⟨by omega, by omega⟩) ?_
    refine JL_pd rfl (det_assign rfl) ?_
    refine JL_nil ?_
    refine JE_seq ?_
    refine JC_block ?_
    -- stop: loop
    refine JC_loopF (γ := Nat × List Gm) (fun q => DlI p xs q.1 q.2) (fun q => [(6, I q.1), (5, I ((keptF p (xs.take q.1)).length : Nat))]) (fun q => [ow (.slice (some ⟨b, 0, none⟩) xs.length cap) 169 5 xs.length (q.2.flatMap encG)]) (fun q => xs.length - q.1) (k0 + 1, xs) hI0 (stsub_consI rfl (by simp) (stsub_consI rfl (by simp only; rw [e0]) stsub_nil)) (ht_ow rfl rfl ht_nil) ?_
    rintro ⟨j, ys⟩ hI K hK
    dsimp only [List.cons_append, List.nil_append] at hI ⊢
    have hI1 := hI.j1
    have hIn := hI.n
    have hIk := hI.k
    refine JC_seq ?_
    refine JC_seq ?_
    refine JC_region ?_
    refine JL_pd rfl (det_move rfl) ?_
    refine JL_pd rfl (det_move rfl) ?_
    refine JL_pd rfl (det_len rfl Tryz.runUnderlying170) ?_
    refine JL_pd rfl (det_lss rfl rfl) ?_
    refine JL_nil ?_
    refine JE_seq ?_
    -- stop: cond
    refine JC_if rfl (fun h2 => ?_) (fun h2 => ?_)
    · have hj : j < xs.length := by omega
      have hg := hI.get hj
      obtain ⟨kk, hkk⟩ : ∃ kk, kk = (keptF p (xs.take j)).length := ⟨_, rfl⟩
      refine JC_skip ?_
      refine JE_seq ?_
      refine JC_seq ?_
      refine JC_block ?_
      refine JC_seq ?_
      refine JC_region ?_
      refine JL_pd rfl (det_move rfl) ?_
      refine JL_pd rfl (det_move rfl) ?_
      refine JL_pd rfl (det_indexOwn (i := j) rfl rfl (by first | rfl | omega) (by first | assumption | omega) Tryz.runUnderlying170 Tryz.sizeOf169) ?_
      refine JL_dt rfl (det_loadOA rfl Tryz.isAgg169 Tryz.sizeOf169 ((flat_rec encG ys j (by omega)).trans (by rw [hg])) rfl) ?_
      refine JL_step rfl rfl rfl (jo_alloc0 Tryz.zeroValue169 rfl) fun b7 => ?_
      refine JL_step0 rfl rfl (jo_store rfl rfl rfl (by first | (simp only [splice_norm]; done) | (simp only [splice_norm]; rfl) | rfl) Tryz.sizeOf169 rfl rfl) fun _ => ?_
      refine JL_nil ?_
      refine JE_seq ?_
      refine JC_seq ?_
      refine JC_region ?_
      refine JL_pd rfl (det_move rfl) ?_
      refine JL_dt rfl (det_loadKA rfl Tryz.isAgg169 Tryz.sizeOf169 rfl rfl) ?_
      -- stop: op  2 t28 := (call (Call (value t26) (t27) (169)))   <0 1>   248
      refine JL_step rfl rfl rfl (jo_callv rfl rfl eF rfl (hF xs[j])) fun _ => ?_
      refine JL_pd rfl (det_not rfl) ?_
      refine JL_nil ?_
      refine JE_seq ?_
      -- stop: cond
      refine JC_cond rfl (fun h3 => ?_) (fun h3 => ?_)
      · refine JC_seq ?_
        refine JC_region ?_
        refine JL_pd rfl (det_move rfl) ?_
        refine JL_pd rfl (det_move rfl) ?_
        refine JL_dt rfl (det_loadKA rfl Tryz.isAgg169 Tryz.sizeOf169 rfl rfl) ?_
        refine JL_pd rfl (det_indexOwn (i := kk) rfl rfl (by first | rfl | omega) (by first | assumption | omega) Tryz.runUnderlying170 Tryz.sizeOf169) ?_
        refine JL_step0 rfl rfl (jo_storeO (xs' := (ys.set (keptF p (xs.take j)).length xs[j]).flatMap encG) (vs := encG xs[j]) rfl rfl rfl (by rw [← hkk]; exact splice_rec encG ys kk xs[j] (by omega)) Tryz.sizeOf169 (by rw [flat_len]; simp [encG]; omega) rfl) fun _ => ?_
        refine JL_nil ?_
        refine JE_seq ?_
        refine JC_region ?_
        refine JL_pd rfl (det_move rfl) ?_
        refine JL_pd rfl (det_add rfl rfl ⟨by omega, by omega⟩) ?_
        refine JL_pd rfl (det_assign rfl) ?_
        refine JL_nil ?_
        refine JE_block ?_
        refine JE_seq ?_
        refine JC_region ?_
        refine JL_pd rfl (det_move rfl) ?_
        refine JL_pd rfl (det_add rfl rfl ⟨by omega, by omega⟩) ?_
        refine JL_pd rfl (det_assign rfl) ?_
        refine JL_nil ?_
        -- stop: end
        have hp : p xs[j] ≠ true := by intro e; rw [e] at h3; cases h3
        have e := kept_snoc p hj
        rw [if_neg hp] at e
        refine JE_roundF hK (j + 1, ys.set (keptF p (xs.take j)).length xs[j]) (hI.yes hj hp) (by simp only; omega) (stsub_consI rfl (by simp) (stsub_consI rfl (by simp only; rw [e]; simp) stsub_nil)) (ht_ow rfl rfl ht_nil)
      · refine JC_skip ?_
        refine JE_block ?_
        refine JE_seq ?_
        refine JC_region ?_
        refine JL_pd rfl (det_move rfl) ?_
        refine JL_pd rfl (det_add rfl rfl ⟨by omega, by omega⟩) ?_
        refine JL_pd rfl (det_assign rfl) ?_
        refine JL_nil ?_
        -- stop: end
        have hp : p xs[j] = true := by revert h3; cases p xs[j] <;> simp
        have e := kept_snoc p hj
        rw [if_pos hp] at e
        refine JE_roundF hK (j + 1, ys) (hI.no hj hp) (by simp only; omega) (stsub_consI rfl (by simp) (stsub_consI rfl (by simp only; rw [e]) stsub_nil)) (ht_ow rfl rfl ht_nil)
    · obtain rfl : j = xs.length := by omega
      rw [List.take_length] at hIk ⊢
      have hIt := hI.t
      rw [List.take_length] at hIt
      have hsp : ∀ vs : List Value, (splice (ys.flatMap encG) ((keptF p xs).length * 5) vs).take ((keptF p xs).length * 5) = (keptF p xs).flatMap encG := fun vs => by
        rw [splice_keep, ← flat_take, hIt]
      refine JC_exit ?_
      refine JE_seq_exit ?_
      refine JE_then_exit ?_
      refine JE_block_here ?_
      refine JE_seq ?_
      refine JC_seq ?_
      refine JC_region ?_
      refine JL_pd rfl (det_move rfl) ?_
      refine JL_pd rfl (det_move rfl) ?_
      refine JL_pd rfl (det_sliceF (keptF p xs).length rfl rfl rfl (by omega) Tryz.runUnderlying170 Tryz.sizeOf169) ?_
      refine JL_step0 rfl rfl (jo_clearD (zs := encG ⟨0, 0, 0, 0, false⟩) _ hIk rfl Tryz.runUnderlying170 Tryz.zeroValue169 rfl (by decide) rfl (by rw [flat_len]; simp [encG]; omega) rfl) fun _ => ?_
      refine JL_nil ?_
      refine JE_seq ?_
      refine JC_seq ?_
      refine JC_region ?_
      refine JL_pd rfl (det_move rfl) ?_
      refine JL_pd rfl (det_move rfl) ?_
      refine JL_step rfl rfl rfl (jo_sliceTo (keptF p xs).length rfl rfl rfl (by omega) Tryz.runUnderlying170 Tryz.sizeOf169 (by decide) (.inr (by omega))) fun b41 => ?_
      refine JL_pd rfl (det_assign rfl) ?_
      refine JL_nil ?_
      refine JE_seq ?_
      refine JC_ret ?_
      -- stop: out
      refine JE_out (.inl rfl) (.slice (some ⟨b, 0, none⟩) (keptF p xs).length cap) (results1 Tryz.results156 (res_tmp rfl)) rfl (by rw [hsp]; exact List.Perm.refl _) (fun _ _ => trivial)
theorem CloneG_x (a : Option Addr) (c : Nat) (xs : List Gm) (hl : xs.length ≤ 1000) : Cx Tryz.prog 157 [.slice a xs.length c] [] (KSl a xs.length c encG xs) (fun q : Value => q) (fun q => [ow q 169 5 xs.length (xs.flatMap encG)]) (fun _ => KTrue) := by
  refine Cx_of Tryz.func157 rfl Tryz.ntmps157 rfl fun w0 M0 => ?_
  refine JC_seq ?_
  refine JC_region ?_
  refine JL_pd rfl (det_assign rfl) ?_
  refine JL_nil ?_
  refine JE_seq ?_
  refine JC_seq ?_
  refine JC_seq ?_
  refine JC_region ?_
  refine JL_pd rfl (det_move rfl) ?_
  refine JL_pd rfl (det_eqlSN rfl rfl Tryz.underlying170) ?_
  refine JL_nil ?_
  refine JE_seq ?_
  -- stop: cond
  refine JC_cond rfl (fun h1 => ?_) (fun h1 => ?_)
  · obtain rfl : a = none := by cases a with | none => rfl | some p => cases h1
    refine JC_pure (p := xs.length = 0 ∧ c = 0) (by intro w h; exact h.1.2.2.1 rfl) fun hz => ?_
    obtain rfl : xs = [] := List.eq_nil_of_length_eq_zero hz.1
    refine JC_seq ?_
    refine JC_region ?_
    refine JL_pd rfl (det_assign rfl) ?_
    refine JL_nil ?_
    refine JE_seq ?_
    refine JC_ret ?_
    refine JE_seq_ret ?_
    -- stop: out
    refine JE_nil 169 5 ?_
    refine JE_out (.inl rfl) (.slice none 0 0) (results1 Tryz.results157 (res_tmp rfl)) rfl (List.Perm.refl _) (fun _ _ => trivial)
  · refine JC_skip ?_
    refine JE_seq ?_
    refine JC_seq ?_
    refine JC_region ?_
    refine JL_step rfl rfl rfl (jo_buildOwn (z := 5) rfl (bsl_170_0) rfl (by decide)) fun b5 => ?_
    refine JL_pd rfl (det_move rfl) ?_
    refine JL_step rfl rfl rfl (jo_appendK (e := encG) el_170 rfl rfl encG_one (by omega)) fun b7 => ?_
    refine JL_pd rfl (det_assign rfl) ?_
    refine JL_nil ?_
    refine JE_seq ?_
    refine JC_ret ?_
    -- stop: out
    refine JE_out (.inl rfl) b7 (results1 Tryz.results157 (res_tmp rfl)) rfl (by rw [Nat.zero_add]; exact List.Perm.refl _) (fun _ _ => trivial)
abbrev opnL (l : List Gm) : List Gm := keptF (fun x => !x.op) l
theorem open1_j (x : Gm) : Cv Tryz.prog 158 [.agg #[I x.a, I x.b, I x.pa, I x.pb, .bool x.op]] KTrue (.bool (!x.op)) := by
  refine Cx_of Tryz.func158 rfl Tryz.ntmps158 rfl fun w0 M0 => ?_
  refine JC_seq ?_
  refine JC_region ?_
  refine JL_step rfl rfl rfl (jo_box rfl rfl) fun b1 => ?_
  refine JL_pd rfl (det_assign rfl) ?_
  refine JL_nil ?_
  refine JE_seq ?_
  refine JC_seq ?_
  refine JC_region ?_
  refine JL_pd rfl (det_fieldAddr rfl fo_169_4) ?_
  refine JL_dt rfl (det_loadK rfl Tryz.isAgg4 rfl) ?_
  refine JL_pd rfl (det_not rfl) ?_
  refine JL_pd rfl (det_assign rfl) ?_
  refine JL_nil ?_
  refine JE_seq ?_
  refine JC_ret ?_
  -- stop: out
  refine JE_out (.inl rfl) () (results1 Tryz.results158 (res_tmp rfl)) rfl (List.Perm.refl _) (fun _ _ => trivial)
set_option maxRecDepth 100000 in
theorem open_j (n : Int) (a : Option Addr) (c : Nat) (l : List Gm) (hl : l.length ≤ 1000) : Cr Tryz.prog 118 [.agg #[I n, .slice a l.length c]] (KSl a l.length c encG l) (fun q : Option Addr × Nat => .slice q.1 (opnL l).length q.2) (fun q => KSl q.1 (opnL l).length q.2 encG (opnL l)) := by
  refine Cx_of Tryz.func118 rfl Tryz.ntmps118 rfl fun w0 M0 => ?_
  refine JC_seq ?_
  refine JC_region ?_
  refine JL_step rfl rfl rfl (jo_box rfl rfl) fun b1 => ?_
  refine JL_pd rfl (det_assign rfl) ?_
  refine JL_nil ?_
  refine JE_seq ?_
  refine JC_seq ?_
  refine JC_region ?_
  refine JL_pd rfl (det_fieldAddr rfl fo_172_1) ?_
  refine JL_dt rfl (det_loadK rfl Tryz.isAgg170 rfl) ?_
  refine JL_step rfl rfl rfl (jo_call rfl rfl Tryz.call157 rfl (CloneG_x a c l hl)) fun x5 => ?_
  -- stop: op  3 t6 := (call (Call (value f156) (t5 f158) (170 267)))   <2 2>   170
  refine JL_step rfl rfl rfl (jo_callx rfl rfl Tryz.call156 rfl (DeleteFunc_j (fun x => !x.op) 158 Tryz.call158 open1_j x5 l hl) (pick_perm)) fun y => ?_
  refine JL_pd rfl (det_assign rfl) ?_
  refine JL_nil ?_
  refine JE_seq ?_
  refine JC_ret ?_
  -- stop: out
  refine JE_slice (enc := encG) (v := y) (opnL l) noFp rfl rfl ?_
  rintro av cv rfl
  refine JE_out (.inl rfl) (av, cv) (results1 Tryz.results118 (res_tmp rfl)) rfl (List.Perm.refl _) (fun w h => h.1)
end Go.Proofs.YthpkgabckklojaaGreat.Bl

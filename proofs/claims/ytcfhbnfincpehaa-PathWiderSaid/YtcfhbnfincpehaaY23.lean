/- The walk of PathWider. -/
import Derived.Test.YtcfhbnfincpehaaB7
import Derived.Test.YtcfhbnfincpehaaB9
set_option linter.unusedSimpArgs false
set_option linter.unusedVariables false
namespace Go.Proofs.Ytcfhbnfincpehaa
open Go.RowKit Go.Shelf

/-- A lane that is another one with wider hooks. -/
structure Wider (l x : La) : Prop where
  b : x.boards = l.boards
  r : x.rows = l.rows
  pt : x.patches = l.patches
  hl : x.hooks.length = l.hooks.length
  hk : ∀ (i : Nat) (h : i < l.hooks.length) (h' : i < x.hooks.length), x.hooks[i].lo ≤ l.hooks[i].lo ∧ l.hooks[i].hi ≤ x.hooks[i].hi
theorem Wider.refl (l : La) : Wider l l := ⟨rfl, rfl, rfl, rfl, fun _ _ _ => ⟨Int.le_refl _, Int.le_refl _⟩⟩
theorem Wider.hook {l x : La} (W : Wider l x) (V : Valid l) (row b : Int) : (hookOf x row b).lo ≤ (hookOf l row b).lo ∧ (hookOf l row b).hi ≤ (hookOf x row b).hi := by
  have lv := levelOf_bd V row b
  have h1 : (levelOf l.patches row b).toNat < l.hooks.length := by omega
  have h2 : (levelOf l.patches row b).toNat < x.hooks.length := by rw [W.hl]; exact h1
  have := W.hk _ h1 h2
  unfold hookOf
  rw [W.pt, List.getD_eq_getElem?_getD, List.getD_eq_getElem?_getD, List.getElem?_eq_getElem h1, List.getElem?_eq_getElem h2]
  exact this
theorem Wider.on {l x : La} (W : Wider l x) (s : St) : onL x s = onL l s := by unfold onL; rw [W.b]
theorem Wider.nR {l x : La} (W : Wider l x) : nR x = nR l := by unfold Go.Proofs.Ytcfhbnfincpehaa.nR; rw [W.r]
theorem Wider.inR {l x : La} (W : Wider l x) (V : Valid l) {row : Int} {s : St} {t : Int} (h : inR t (hookOf l row s.b) = true) : inR t (hookOf x row s.b) = true := by
  have := W.hook V row s.b
  simp only [Go.Proofs.Ytcfhbnfincpehaa.inR, decide_eq_true_eq] at h ⊢
  omega
theorem Wider.truth {l x : La} (W : Wider l x) (V : Valid l) {n : Nat} {row : Int} {s : St} {ts : List Int} {over : List St} {g : Bool} (h : Truth l n row s ts over g) : Truth x n row s ts over g := by
  induction h with
  | last h => exact .last (by rwa [W.on])
  | off h1 h2 h3 => exact .off (by rwa [W.on]) (W.inR V h2) (by rwa [W.on])
  | on h1 h2 h3 ih => exact .on (by rwa [W.on]) (W.inR V h2) ih
theorem Wider.rch {l x : La} (W : Wider l x) (V : Valid l) {s0 : St} : ∀ {k : Nat} {t : St}, Rch l s0 k t → Rch x s0 k t
  | 0, t, h => h
  | k + 1, t, ⟨h1, s, h2, h3⟩ => by
    obtain ⟨u, hu, rfl⟩ := step_mem h3
    exact ⟨by rwa [W.on], s, W.rch V h2, mem_step (W.inR V hu)⟩
theorem Wider.can {l x : La} (W : Wider l x) (V : Valid l) {en en' : Bool → St → Bool} (he : ∀ b s, en b s = true → en' b s = true) : ∀ (n : Nat) (row : Int) (s : St), canN l en n row s = true → canN x en' n row s = true
  | 0, row, s, h => by simp only [canN, W.on] at h ⊢; exact he _ _ h
  | n + 1, row, s, h => by
    simp only [canN, W.on] at h ⊢
    by_cases hon : onL l s = true
    · rw [if_pos hon, List.any_eq_true] at h ⊢
      obtain ⟨t, ht, hc⟩ := h
      obtain ⟨u, hu, rfl⟩ := step_mem ht
      exact ⟨_, mem_step (W.inR V hu), W.can V he n _ _ hc⟩
    · rw [if_neg hon] at h ⊢; exact he _ _ h
theorem Wider.start {l x : La} (W : Wider l x) {s : St} (h : isStart l s = true) : isStart x s = true := by unfold isStart at *; rwa [W.b]
/-- A pocket that holds another one. -/
structure WiderP (p q : Pk) : Prop where
  b1 : q.boards.lo ≤ p.boards.lo
  b2 : p.boards.hi ≤ q.boards.hi
  d1 : q.dirs.lo ≤ p.dirs.lo
  d2 : p.dirs.hi ≤ q.dirs.hi
theorem WiderP.hits {p q : Pk} (W : WiderP p q) (b : Bool) (s : St) (h : hitsP p b s = true) : hitsP q b s = true := by
  have h1 := W.b1
  have h2 := W.b2
  have h3 := W.d1
  have h4 := W.d2
  simp only [hitsP, Bool.and_eq_true] at h ⊢
  obtain ⟨⟨hb, h5⟩, h6⟩ := h
  have h5 := of_decide_eq_true (show decide (p.boards.lo ≤ s.b ∧ s.b ≤ p.boards.hi) = true from h5)
  have h6 := of_decide_eq_true (show decide (p.dirs.lo ≤ s.d ∧ s.d ≤ p.dirs.hi) = true from h6)
  exact ⟨⟨hb, decide_eq_true (by omega)⟩, decide_eq_true (by omega)⟩
theorem WiderP.miss {p q : Pk} (W : WiderP p q) (b : Bool) (s : St) (h : enM q b s = true) : enM p b s = true := by
  unfold enM at *
  cases hc : hitsP p b s
  · rfl
  · rw [W.hits b s hc] at h; cases h
theorem wider_rows {l x : La} (W : Wider l x) (V : Valid l) (Vx : Valid x) {s : St} (h0 : isStart l s = true) (k : Nat) : everyB (rowL l s k) (rowL x s k) = true := by
  simp only [everyB, List.all_eq_true, decide_eq_true_eq]
  intro t ht
  exact (mem_rowL Vx (W.start h0)).2 (W.rch V ((mem_rowL V h0).1 ht))
theorem wider_turn {l x : La} (W : Wider l x) (V : Valid l) {s : St} (h0 : isStart l s = true) : (turnV x s).lo ≤ (turnV l s).lo ∧ (turnV l s).hi ≤ (turnV x s).hi := by
  obtain ⟨⟨t1, o1, g1, hT1, e1⟩, ⟨t2, o2, g2, hT2, e2⟩⟩ := turn_truth V (nR l) 0 s (onL_start h0)
  have a1 := (W.truth V hT1).turn
  have a2 := (W.truth V hT2).turn
  unfold turnV
  rw [W.nR]
  omega
theorem wider_aims {l x : La} (W : Wider l x) (V : Valid l) (p : Pk) : everyB (aimsL x p) (aimsL l p) = true := by
  simp only [everyB, List.all_eq_true, decide_eq_true_eq, aimsL, List.mem_filter]
  rintro t ⟨h1, h2⟩
  rw [W.b] at h1
  refine ⟨h1, ?_⟩
  unfold sureS at *
  rw [W.nR] at h2
  cases hc : canN l (enM p) (nR l) 0 t
  · rfl
  · rw [W.can V (fun _ _ h => h) _ _ _ hc] at h2; cases h2
theorem wider_pock {l : La} (V : Valid l) {p q : Pk} (W : WiderP p q) : everyB (aimsL l p) (aimsL l q) = true := by
  simp only [everyB, List.all_eq_true, decide_eq_true_eq, aimsL, List.mem_filter]
  rintro t ⟨h1, h2⟩
  refine ⟨h1, ?_⟩
  unfold sureS at *
  cases hc : canN l (enM q) (nR l) 0 t
  · rfl
  · rw [(Wider.refl l).can V W.miss _ _ _ hc] at h2; cases h2
theorem wider_hits {l : La} (V : Valid l) {p q : Pk} (W : WiderP p q) (s : St) : hitsV l s p ≤ hitsV l s q := by
  unfold hitsV
  cases hm : canN l (enM q) (nR l) 0 s
  · simp only [Bool.false_eq_true, if_false]
    split
    · split <;> omega
    · omega
  · have h1 := (Wider.refl l).can V W.miss _ _ _ hm
    rw [h1]
    simp only [if_true]
    cases hh : canN l (hitsP p) (nR l) 0 s
    · simp only [Bool.false_eq_true, if_false]
      split <;> omega
    · rw [(Wider.refl l).can V W.hits _ _ _ hh]; simp
/-- The lane with one hook wider. -/
def widL (l : La) (k : Nat) (h : Rg) : La := ⟨l.boards, l.rows, l.hooks.set k h, l.patches⟩
theorem widL_wider {l : La} {k : Nat} (hk : k < l.hooks.length) {h : Rg} (h1 : h.lo ≤ l.hooks[k].lo) (h2 : l.hooks[k].hi ≤ h.hi) : Wider l (widL l k h) := by
  refine ⟨rfl, rfl, rfl, by simp [widL], fun i hi hi' => ?_⟩
  simp only [widL, List.getElem_set]
  split
  · rename_i e; subst e; exact ⟨h1, h2⟩
  · exact ⟨Int.le_refl _, Int.le_refl _⟩
theorem widL_valid {l : La} (V : Valid l) {k : Nat} {h : Rg} (h1 : -3 ≤ h.lo) (h2 : h.lo ≤ h.hi) (h3 : h.hi ≤ 3) : Valid (widL l k h) := by
  refine ⟨V.np, by simpa [widL] using V.nh, V.b1, V.b2, V.r1, V.r2, by simpa [widL] using V.h0, fun x hx => ?_, fun p hp => ?_⟩
  · rcases List.mem_or_eq_of_mem_set hx with hx | rfl
    · exact V.hk x hx
    · exact ⟨h1, h2, h3⟩
  · have := V.pk p hp
    simpa [widL] using this
/-- The wider pocket. -/
def widP (p : Pk) (n : Int) : Pk := ⟨⟨p.boards.lo - n.tmod 3, p.boards.hi + (n.tdiv 4).tmod 3⟩, ⟨p.dirs.lo - (n.tdiv 16).tmod 2, p.dirs.hi + (n.tdiv 32).tmod 2⟩⟩
set_option maxRecDepth 100000 in
set_option maxHeartbeats 2000000 in
theorem PathWider_j (l : La) (s : St) (p : Pk) (wh by_ row : Int) (ha pa : Option Addr) (hc pc : Nat) (w1 : 0 ≤ wh ∧ wh ≤ 255) (w2 : 0 ≤ by_ ∧ by_ ≤ 255) (w3 : 0 ≤ row ∧ row ≤ 255) : Cv Try.prog 8 [.agg #[I l.boards, I l.rows, .slice ha l.hooks.length hc, .slice pa l.patches.length pc], .agg #[I s.b, I s.d], .agg #[I p.boards.lo, I p.boards.hi, I p.dirs.lo, I p.dirs.hi], .int .u8 wh, .int .u8 by_, .int .u8 row] (KLane l ha hc pa pc) (.bool true) := by
  refine Cx_of Try.func8 rfl Try.ntmps8 rfl fun w0 M0 => ?_
  refine JC_seq ?_
  refine JC_region ?_
  refine JL_step rfl rfl rfl (jo_box rfl rfl) fun b6 => ?_
  refine JL_step rfl rfl rfl (jo_box rfl rfl) fun b7 => ?_
  refine JL_step rfl rfl rfl (jo_box rfl rfl) fun b8 => ?_
  refine JL_pd rfl (det_assign rfl) ?_
  refine JL_nil ?_
  refine JE_seq ?_
  refine JC_seq ?_
  refine JC_seq ?_
  refine JC_region ?_
  refine JL_dt rfl (det_loadKA rfl Try.isAgg25 Try.sizeOf25 rfl rfl) ?_
  refine JL_dt rfl (det_loadKA rfl Try.isAgg27 Try.sizeOf27 rfl rfl) ?_
  refine JL_step rfl rfl rfl (jo_callv rfl rfl Try.call36 rfl (lready_j l s ha pa hc pc)) fun _ => ?_
  refine JL_pd rfl (det_not rfl) ?_
  refine JL_pd rfl (det_move rfl) ?_
  -- stop: guard 4
  refine JL_join1 28 69 (.bool (!(thin l && decide (startErr l s = 0) && isPocket p && !decide (p.boards.lo < -1000) && !decide (1000 < p.boards.hi) && !decide (p.dirs.lo < -1000) && !decide (1000 < p.dirs.hi)))) (fun hj => ?_) ?_
  · refine JL_split (d0 := 41) rfl (fun q1 => ?_) (fun q1 => ?_)
    · refine JL_skip rfl rfl q1 rfl ?_
      refine JL_skip rfl rfl q1 rfl ?_
      refine JL_skip rfl rfl q1 rfl ?_
      refine JL_pd rfl (det_pick_t rfl q1 rfl) ?_
      refine JL_pd rfl (det_move rfl) ?_
      refine JL_skip rfl rfl rfl rfl ?_
      refine JL_skip rfl rfl rfl rfl ?_
      refine JL_skip rfl rfl rfl rfl ?_
      refine JL_skip rfl rfl rfl rfl ?_
      refine JL_pd rfl (det_pick_t rfl rfl rfl) ?_
      refine JL_pd rfl (det_move rfl) ?_
      refine JL_skip rfl rfl rfl rfl ?_
      refine JL_skip rfl rfl rfl rfl ?_
      refine JL_skip rfl rfl rfl rfl ?_
      refine JL_skip rfl rfl rfl rfl ?_
      refine JL_pd rfl (det_pick_t rfl rfl rfl) ?_
      refine JL_pd rfl (det_move rfl) ?_
      refine JL_skip rfl rfl rfl rfl ?_
      refine JL_skip rfl rfl rfl rfl ?_
      refine JL_skip rfl rfl rfl rfl ?_
      refine JL_skip rfl rfl rfl rfl ?_
      refine JL_pd rfl (det_pick_t rfl rfl rfl) ?_
      refine JL_pd rfl (det_move rfl) ?_
      refine JL_skip rfl rfl rfl rfl ?_
      refine JL_skip rfl rfl rfl rfl ?_
      refine JL_skip rfl rfl rfl rfl ?_
      refine JL_skip rfl rfl rfl rfl ?_
      refine JL_pd rfl (det_pick_t rfl rfl rfl) ?_
      exact hj (by kernel_rfl) (stsub_consB rfl (by clear hj; first | rfl | (simp only [q1, Bool.and_true, Bool.true_and, Bool.false_and, Bool.and_false, Bool.or_true, Bool.true_or, Bool.or_false, Bool.false_or, Bool.not_true, Bool.not_false]; done) | (simp [q1]; done) | (simp at q1; done) | (simp [q1] <;> omega) | (exfalso; simp at q1; omega)) stsub_nil)
    · refine JL_guard rfl rfl q1 ?_
      refine JL_dt rfl (det_loadKA rfl Try.isAgg57 Try.sizeOf57 rfl rfl) ?_
      refine JL_guard rfl rfl q1 ?_
      refine JL_step rfl rfl rfl (jo_callv rfl rfl Try.call33 rfl (rIsPocket_j p)) fun _ => ?_
      refine JL_guard rfl rfl q1 ?_
      refine JL_pd rfl (det_not rfl) ?_
      refine JL_pd rfl (det_pick_f rfl q1 rfl) ?_
      refine JL_pd rfl (det_move rfl) ?_
      refine JL_split (d0 := 46) rfl (fun q2 => ?_) (fun q2 => ?_)
      · refine JL_skip rfl rfl q2 rfl ?_
        refine JL_skip rfl rfl q2 rfl ?_
        refine JL_skip rfl rfl q2 rfl ?_
        refine JL_skip rfl rfl q2 rfl ?_
        refine JL_pd rfl (det_pick_t rfl q2 rfl) ?_
        refine JL_pd rfl (det_move rfl) ?_
        refine JL_skip rfl rfl rfl rfl ?_
        refine JL_skip rfl rfl rfl rfl ?_
        refine JL_skip rfl rfl rfl rfl ?_
        refine JL_skip rfl rfl rfl rfl ?_
        refine JL_pd rfl (det_pick_t rfl rfl rfl) ?_
        refine JL_pd rfl (det_move rfl) ?_
        refine JL_skip rfl rfl rfl rfl ?_
        refine JL_skip rfl rfl rfl rfl ?_
        refine JL_skip rfl rfl rfl rfl ?_
        refine JL_skip rfl rfl rfl rfl ?_
        refine JL_pd rfl (det_pick_t rfl rfl rfl) ?_
        refine JL_pd rfl (det_move rfl) ?_
        refine JL_skip rfl rfl rfl rfl ?_
        refine JL_skip rfl rfl rfl rfl ?_
        refine JL_skip rfl rfl rfl rfl ?_
        refine JL_skip rfl rfl rfl rfl ?_
        refine JL_pd rfl (det_pick_t rfl rfl rfl) ?_
        exact hj (by kernel_rfl) (stsub_consB rfl (by clear hj; first | rfl | (simp only [q1, q2, Bool.and_true, Bool.true_and, Bool.false_and, Bool.and_false, Bool.or_true, Bool.true_or, Bool.or_false, Bool.false_or, Bool.not_true, Bool.not_false]; done) | (simp [q1, q2]; done) | (simp at q1; done) | (simp at q2; done) | (simp [q1, q2] <;> omega) | (exfalso; simp at q1 q2; omega) | (simp [q2] at q1; done) | (simp [q1] at q2; done)) stsub_nil)
      · refine JL_guard rfl rfl q2 ?_
        refine JL_pd rfl (det_fieldAddr rfl fo_57_0) ?_
        refine JL_guard rfl rfl q2 ?_
        refine JL_pd rfl (det_fieldAddr rfl fo_53_0) ?_
        refine JL_guard rfl rfl q2 ?_
        refine JL_dt rfl (det_loadK rfl Try.isAgg3 rfl) ?_
        refine JL_guard rfl rfl q2 ?_
        refine JL_pd rfl (det_lss rfl rfl) ?_
        refine JL_pd rfl (det_pick_f rfl q2 rfl) ?_
        refine JL_pd rfl (det_move rfl) ?_
        refine JL_split (d0 := 52) rfl (fun q3 => ?_) (fun q3 => ?_)
        · refine JL_skip rfl rfl q3 rfl ?_
          refine JL_skip rfl rfl q3 rfl ?_
          refine JL_skip rfl rfl q3 rfl ?_
          refine JL_skip rfl rfl q3 rfl ?_
          refine JL_pd rfl (det_pick_t rfl q3 rfl) ?_
          refine JL_pd rfl (det_move rfl) ?_
          refine JL_skip rfl rfl rfl rfl ?_
          refine JL_skip rfl rfl rfl rfl ?_
          refine JL_skip rfl rfl rfl rfl ?_
          refine JL_skip rfl rfl rfl rfl ?_
          refine JL_pd rfl (det_pick_t rfl rfl rfl) ?_
          refine JL_pd rfl (det_move rfl) ?_
          refine JL_skip rfl rfl rfl rfl ?_
          refine JL_skip rfl rfl rfl rfl ?_
          refine JL_skip rfl rfl rfl rfl ?_
          refine JL_skip rfl rfl rfl rfl ?_
          refine JL_pd rfl (det_pick_t rfl rfl rfl) ?_
          exact hj (by kernel_rfl) (stsub_consB rfl (by clear hj; first | rfl | (simp only [q1, q2, q3, Bool.and_true, Bool.true_and, Bool.false_and, Bool.and_false, Bool.or_true, Bool.true_or, Bool.or_false, Bool.false_or, Bool.not_true, Bool.not_false]; done) | (simp [q1, q2, q3]; done) | (simp at q1; done) | (simp at q2; done) | (simp at q3; done) | (simp [q1, q2, q3] <;> omega) | (exfalso; simp at q1 q2 q3; omega) | (simp [q2, q3] at q1; done) | (simp [q1, q3] at q2; done) | (simp [q1, q2] at q3; done)) stsub_nil)
        · refine JL_guard rfl rfl q3 ?_
          refine JL_pd rfl (det_fieldAddr rfl fo_57_0) ?_
          refine JL_guard rfl rfl q3 ?_
          refine JL_pd rfl (det_fieldAddr rfl fo_53_1) ?_
          refine JL_guard rfl rfl q3 ?_
          refine JL_dt rfl (det_loadK rfl Try.isAgg3 rfl) ?_
          refine JL_guard rfl rfl q3 ?_
          refine JL_pd rfl (det_gtr rfl rfl) ?_
          refine JL_pd rfl (det_pick_f rfl q3 rfl) ?_
          refine JL_pd rfl (det_move rfl) ?_
          refine JL_split (d0 := 58) rfl (fun q4 => ?_) (fun q4 => ?_)
          · refine JL_skip rfl rfl q4 rfl ?_
            refine JL_skip rfl rfl q4 rfl ?_
            refine JL_skip rfl rfl q4 rfl ?_
            refine JL_skip rfl rfl q4 rfl ?_
            refine JL_pd rfl (det_pick_t rfl q4 rfl) ?_
            refine JL_pd rfl (det_move rfl) ?_
            refine JL_skip rfl rfl rfl rfl ?_
            refine JL_skip rfl rfl rfl rfl ?_
            refine JL_skip rfl rfl rfl rfl ?_
            refine JL_skip rfl rfl rfl rfl ?_
            refine JL_pd rfl (det_pick_t rfl rfl rfl) ?_
            exact hj (by kernel_rfl) (stsub_consB rfl (by clear hj; first | rfl | (simp only [q1, q2, q3, q4, Bool.and_true, Bool.true_and, Bool.false_and, Bool.and_false, Bool.or_true, Bool.true_or, Bool.or_false, Bool.false_or, Bool.not_true, Bool.not_false]; done) | (simp [q1, q2, q3, q4]; done) | (simp at q1; done) | (simp at q2; done) | (simp at q3; done) | (simp at q4; done) | (simp [q1, q2, q3, q4] <;> omega) | (exfalso; simp at q1 q2 q3 q4; omega) | (simp [q2, q3, q4] at q1; done) | (simp [q1, q3, q4] at q2; done) | (simp [q1, q2, q4] at q3; done) | (simp [q1, q2, q3] at q4; done)) stsub_nil)
          · refine JL_guard rfl rfl q4 ?_
            refine JL_pd rfl (det_fieldAddr rfl fo_57_1) ?_
            refine JL_guard rfl rfl q4 ?_
            refine JL_pd rfl (det_fieldAddr rfl fo_53_0) ?_
            refine JL_guard rfl rfl q4 ?_
            refine JL_dt rfl (det_loadK rfl Try.isAgg3 rfl) ?_
            refine JL_guard rfl rfl q4 ?_
            refine JL_pd rfl (det_lss rfl rfl) ?_
            refine JL_pd rfl (det_pick_f rfl q4 rfl) ?_
            refine JL_pd rfl (det_move rfl) ?_
            refine JL_split (d0 := 64) rfl (fun q5 => ?_) (fun q5 => ?_)
            · refine JL_skip rfl rfl q5 rfl ?_
              refine JL_skip rfl rfl q5 rfl ?_
              refine JL_skip rfl rfl q5 rfl ?_
              refine JL_skip rfl rfl q5 rfl ?_
              refine JL_pd rfl (det_pick_t rfl q5 rfl) ?_
              exact hj (by kernel_rfl) (stsub_consB rfl (by clear hj; first | rfl | (simp only [q1, q2, q3, q4, q5, Bool.and_true, Bool.true_and, Bool.false_and, Bool.and_false, Bool.or_true, Bool.true_or, Bool.or_false, Bool.false_or, Bool.not_true, Bool.not_false]; done) | (simp [q1, q2, q3, q4, q5]; done) | (simp at q1; done) | (simp at q2; done) | (simp at q3; done) | (simp at q4; done) | (simp at q5; done) | (simp [q1, q2, q3, q4, q5] <;> omega) | (exfalso; simp at q1 q2 q3 q4 q5; omega) | (simp [q2, q3, q4, q5] at q1; done) | (simp [q1, q3, q4, q5] at q2; done) | (simp [q1, q2, q4, q5] at q3; done) | (simp [q1, q2, q3, q5] at q4; done) | (simp [q1, q2, q3, q4] at q5; done)) stsub_nil)
            · refine JL_guard rfl rfl q5 ?_
              refine JL_pd rfl (det_fieldAddr rfl fo_57_1) ?_
              refine JL_guard rfl rfl q5 ?_
              refine JL_pd rfl (det_fieldAddr rfl fo_53_1) ?_
              refine JL_guard rfl rfl q5 ?_
              refine JL_dt rfl (det_loadK rfl Try.isAgg3 rfl) ?_
              refine JL_guard rfl rfl q5 ?_
              refine JL_pd rfl (det_gtr rfl rfl) ?_
              refine JL_pd rfl (det_pick_f rfl q5 rfl) ?_
              exact hj (by kernel_rfl) (stsub_consB rfl (by clear hj; first | rfl | (simp only [q1, q2, q3, q4, q5, Bool.and_true, Bool.true_and, Bool.false_and, Bool.and_false, Bool.or_true, Bool.true_or, Bool.or_false, Bool.false_or, Bool.not_true, Bool.not_false]; done) | (simp [q1, q2, q3, q4, q5]; done) | (simp at q1; done) | (simp at q2; done) | (simp at q3; done) | (simp at q4; done) | (simp at q5; done) | (simp [q1, q2, q3, q4, q5] <;> omega) | (exfalso; simp at q1 q2 q3 q4 q5; omega) | (simp [q2, q3, q4, q5] at q1; done) | (simp [q1, q3, q4, q5] at q2; done) | (simp [q1, q2, q4, q5] at q3; done) | (simp [q1, q2, q3, q5] at q4; done) | (simp [q1, q2, q3, q4] at q5; done)) stsub_nil)
  refine JL_nil ?_
  refine JE_seq ?_
  -- stop: cond
  refine JC_cond rfl (fun h1 => ?_) (fun h1 => ?_)
  · refine JC_seq ?_
    refine JC_region ?_
    refine JL_step rfl rfl rfl (jo_callv rfl rfl Try.call17 rfl (lawake_j)) fun _ => ?_
    refine JL_pd rfl (det_assign rfl) ?_
    refine JL_nil ?_
    refine JE_seq ?_
    refine JC_ret ?_
    refine JE_seq_ret ?_
    -- stop: out
    refine JE_out (.inl rfl) () (results1 Try.results8 (res_tmp rfl)) rfl (List.Perm.refl _) (fun _ _ => trivial)
  · simp only [Bool.not_eq_false', Bool.and_eq_true, decide_eq_true_eq, Bool.not_eq_true', decide_eq_false_iff_not] at h1
    obtain ⟨⟨⟨⟨⟨⟨hthin, he⟩, hp⟩, g1⟩, g2⟩, g3⟩, g4⟩ := h1
    obtain ⟨V, h0⟩ := valid_start he
    have hth : l.patches.length ≤ 12 ∧ l.hooks.length ≤ 6 := by simpa [thin] using hthin
    have hpos := V.h0
    have r1 := V.r1
    have hp2 : p.boards.lo ≤ p.boards.hi ∧ p.dirs.lo ≤ p.dirs.hi := by simpa [isPocket] using hp
    obtain ⟨k, hk⟩ : ∃ k : Nat, wh.tmod (l.hooks.length : Int) = k := ⟨(wh.tmod l.hooks.length).toNat, by rw [Int.toNat_of_nonneg (Int.tmod_nonneg _ w1.1)]⟩
    have hkl : k < l.hooks.length := by have := Int.tmod_lt_of_pos wh (show (0 : Int) < l.hooks.length by omega); omega
    obtain ⟨q, hq⟩ : ∃ q : Nat, row.tmod l.rows = q := ⟨(row.tmod l.rows).toNat, by rw [Int.toNat_of_nonneg (Int.tmod_nonneg _ w3.1)]⟩
    have hql : (q : Int) < l.rows := by rw [← hq]; exact Int.tmod_lt_of_pos _ (by omega)
    have m2 : by_.tmod 2 = by_ % 2 := Int.tmod_eq_emod_of_nonneg w2.1
    have m3 : by_.tmod 3 = by_ % 3 := Int.tmod_eq_emod_of_nonneg w2.1
    have d2 : by_.tdiv 2 = by_ / 2 := Int.tdiv_eq_ediv_of_nonneg w2.1
    have d4 : by_.tdiv 4 = by_ / 4 := Int.tdiv_eq_ediv_of_nonneg w2.1
    have d16 : by_.tdiv 16 = by_ / 16 := Int.tdiv_eq_ediv_of_nonneg w2.1
    have d32 : by_.tdiv 32 = by_ / 32 := Int.tdiv_eq_ediv_of_nonneg w2.1
    have t2 : (by_.tdiv 2).tmod 2 = by_ / 2 % 2 := by rw [d2]; exact Int.tmod_eq_emod_of_nonneg (by omega)
    have t4 : (by_.tdiv 4).tmod 3 = by_ / 4 % 3 := by rw [d4]; exact Int.tmod_eq_emod_of_nonneg (by omega)
    have t16 : (by_.tdiv 16).tmod 2 = by_ / 16 % 2 := by rw [d16]; exact Int.tmod_eq_emod_of_nonneg (by omega)
    have t32 : (by_.tdiv 32).tmod 2 = by_ / 32 % 2 := by rw [d32]; exact Int.tmod_eq_emod_of_nonneg (by omega)
    have hkb := V.hk _ (List.getElem_mem hkl)
    obtain ⟨hw, hwE⟩ : ∃ hw : Rg, hw = ⟨max (-3) (l.hooks[k].lo - by_.tmod 2), min 3 (l.hooks[k].hi + (by_.tdiv 2).tmod 2)⟩ := ⟨_, rfl⟩
    have hw1 : hw.lo = max (-3) (l.hooks[k].lo - by_.tmod 2) := by rw [hwE]
    have hw2 : hw.hi = min 3 (l.hooks[k].hi + (by_.tdiv 2).tmod 2) := by rw [hwE]
    have W := widL_wider hkl (h := hw) (by omega) (by omega)
    have Vx := widL_valid V (k := k) (h := hw) (by omega) (by omega) (by omega)
    have WP : WiderP p (widP p by_) := ⟨by simp only [widP]; omega, by simp only [widP]; omega, by simp only [widP]; omega, by simp only [widP]; omega⟩
    have hpq : isPocket (widP p by_) = true := by
      have := WP.b1
      have := WP.b2
      have := WP.d1
      have := WP.d2
      exact decide_eq_true (by omega)
    have hf := valid_fault V
    have hfx := valid_fault Vx
    have h0x := W.start h0
    have hex : startErr (widL l k hw) s = 0 := by simp [startErr, hfx, h0x]
    have haP : aimsErr l p = 0 := by simp [aimsErr, hf, hp]
    have haQ : aimsErr l (widP p by_) = 0 := by simp [aimsErr, hf, hpq]
    have haX : aimsErr (widL l k hw) p = 0 := by simp [aimsErr, hfx, hp]
    have heP : aimErr l s p = 0 := by simp [aimErr, he, hp]
    have heQ : aimErr l s (widP p by_) = 0 := by simp [aimErr, he, hpq]
    have b2 := V.b2
    have b2x := Vx.b2
    have hlen : (widL l k hw).hooks.length = l.hooks.length := by simp [widL]
    have hLl := lLane_j l ha pa hc pc (by omega) (by omega)
    have hLx0 := fun (ha : Option Addr) (hc : Nat) => lLane_j (widL l k hw) ha pa hc pc (by omega) (show l.patches.length ≤ 1000000 by omega)
    have hRx := fun (ha pa : Option Addr) (hc pc : Nat) => Reach_jo (widL l k hw) s q ha pa hc pc hex hql
    have hTx := fun (ha pa : Option Addr) (hc pc : Nat) => Turn_jo (widL l k hw) s ha pa hc pc hex
    have hAx := fun (ha pa : Option Addr) (hc pc : Nat) => Aims_jo (widL l k hw) p ha pa hc pc haX
    rw [hlen] at hLx0 hRx hTx hAx
    have n1 := rowL_len l s q V
    have n2 := rowL_len (widL l k hw) s q Vx
    have n3 := aims_len l p b2
    have n4 := aims_len (widL l k hw) p b2x
    have n5 := aims_len l (widP p by_) b2
    have hE1 := wider_rows W V Vx h0 q
    have hE2 := wider_turn W V h0
    have hE3 := wider_aims W V p
    have hE4 := wider_pock V WP
    have hE5 := wider_hits V WP s
    refine JC_skip ?_
    refine JE_seq ?_
    refine JC_seq ?_
    refine JC_region ?_
    refine JL_dt rfl (det_loadKA rfl Try.isAgg25 Try.sizeOf25 rfl rfl) ?_
    refine JL_step rfl rfl rfl (jo_alloc0 Try.zeroValue25 rfl) fun b13 => ?_
    refine JL_step0 rfl rfl (jo_store rfl rfl rfl (by first | (simp only [splice_norm]; done) | (simp only [splice_norm]; rfl) | rfl) Try.sizeOf25 rfl rfl) fun _ => ?_
    refine JL_nil ?_
    refine JE_seq ?_
    refine JC_seq ?_
    refine JC_region ?_
    refine JL_step rfl rfl rfl (jo_buildOwn (z := 2) rfl (bsl_22_0) rfl (by decide)) fun b72 => ?_
    refine JL_pd rfl (det_fieldAddr rfl fo_25_2) ?_
    refine JL_dt rfl (det_loadK rfl Try.isAgg22 rfl) ?_
    refine JL_step rfl rfl rfl (jo_appendK (e := encRg) el_22 rfl rfl (fun _ => rfl) (by omega)) fun b75 => ?_
    refine JL_form (n := 0 + l.hooks.length) b75 (by omega) ?_
    rintro xb xc rfl
    simp only [Nat.zero_add, List.nil_append]
    refine JL_pd rfl (det_fieldAddr rfl fo_25_2) ?_
    refine JL_step0 rfl rfl (jo_store rfl rfl rfl (by first | (simp only [splice_norm]; done) | (simp only [splice_norm]; rfl) | rfl) Try.sizeOf22 rfl rfl) fun _ => ?_
    refine JL_nil ?_
    refine JE_seq ?_
    refine JC_seq ?_
    refine JC_draw [] (by kernel_rfl) ?_
    refine JA_pd (i := 0) rfl (by kernel_rfl) rfl rfl (det_fieldAddr rfl fo_25_2) ?_
    refine JA_dt (i := 1) rfl (by kernel_rfl) (by kernel_rfl) rfl rfl (det_loadK rfl Try.isAgg22 rfl) ?_
    refine JA_pd (i := 2) rfl (by kernel_rfl) rfl rfl (det_move rfl) ?_
    refine JA_pd (i := 3) rfl (by kernel_rfl) rfl rfl (det_convI rfl Try.runUnderlying5 Try.runUnderlying3 (i64_wrap ⟨by omega, by omega⟩)) ?_
    refine JA_pd (i := 4) rfl (by kernel_rfl) rfl rfl (det_fieldAddr rfl fo_25_2) ?_
    refine JA_dt (i := 5) rfl (by kernel_rfl) (by kernel_rfl) rfl rfl (det_loadK rfl Try.isAgg22 rfl) ?_
    refine JA_pd (i := 6) rfl (by kernel_rfl) rfl rfl (det_len rfl Try.runUnderlying22) ?_
    refine JA_pd (i := 7) rfl (by kernel_rfl) rfl rfl (det_rem rfl rfl (by omega)) ?_
    refine JA_pd (i := 8) rfl (by kernel_rfl) rfl rfl (det_indexOwn (i := k) rfl rfl hk hkl Try.runUnderlying22 Try.sizeOf53) ?_
    refine JA_pd (i := 9) rfl (by kernel_rfl) rfl rfl (det_assign rfl) ?_
    refine JA_done (by kernel_rfl) ?_
    refine JE_seq ?_
    refine JC_seq ?_
    refine JC_draw [23, 26] (by kernel_rfl) ?_
    refine JA_pd (i := 0) rfl (by kernel_rfl) rfl rfl (det_move rfl) ?_
    refine JA_pd (i := 1) rfl (by kernel_rfl) rfl rfl (det_move rfl) ?_
    refine JA_pd (i := 2) rfl (by kernel_rfl) rfl rfl (det_move rfl) ?_
    refine JA_pd (i := 3) rfl (by kernel_rfl) rfl rfl (det_nilCheck rfl) ?_
    refine JA_pd (i := 4) rfl (by kernel_rfl) rfl rfl (det_fieldAddr rfl fo_53_0) ?_
    refine JA_dt (i := 5) rfl (by kernel_rfl) (by kernel_rfl) rfl rfl (det_loadO rfl Try.isAgg3 (flatMap_get encRg 2 encRg_len l.hooks k 0 l.hooks[k] (List.getElem?_eq_getElem hkl) (by decide))) ?_
    refine JA_pd (i := 6) rfl (by kernel_rfl) rfl rfl (det_move rfl) ?_
    refine JA_pd (i := 7) rfl (by kernel_rfl) rfl rfl (det_convI rfl Try.runUnderlying5 Try.runUnderlying3 (i64_wrap ⟨by omega, by omega⟩)) ?_
    refine JA_pd (i := 8) rfl (by kernel_rfl) rfl rfl (det_rem rfl rfl (by omega)) ?_
    refine JA_pd (i := 9) rfl (by kernel_rfl) rfl rfl (det_sub rfl rfl ⟨by omega, by omega⟩) ?_
    refine JA_pd (i := 10) rfl (by kernel_rfl) rfl rfl (det_max rfl rfl) ?_
    refine JA_pd (i := 11) rfl (by kernel_rfl) rfl rfl (det_move rfl) ?_
    refine JA_pd (i := 12) rfl (by kernel_rfl) rfl rfl (det_nilCheck rfl) ?_
    refine JA_pd (i := 13) rfl (by kernel_rfl) rfl rfl (det_fieldAddr rfl fo_53_1) ?_
    refine JA_dt (i := 14) rfl (by kernel_rfl) (by kernel_rfl) rfl rfl (det_loadO rfl Try.isAgg3 (flatMap_get encRg 2 encRg_len l.hooks k 1 l.hooks[k] (List.getElem?_eq_getElem hkl) (by decide))) ?_
    refine JA_pd (i := 15) rfl (by kernel_rfl) rfl rfl (det_move rfl) ?_
    refine JA_pd (i := 16) rfl (by kernel_rfl) rfl rfl (det_convI rfl Try.runUnderlying5 Try.runUnderlying3 (i64_wrap ⟨by omega, by omega⟩)) ?_
    refine JA_pd (i := 17) rfl (by kernel_rfl) rfl rfl (det_quo rfl rfl (by omega) ⟨by omega, by omega⟩) ?_
    refine JA_pd (i := 18) rfl (by kernel_rfl) rfl rfl (det_rem rfl rfl (by omega)) ?_
    refine JA_pd (i := 19) rfl (by kernel_rfl) rfl rfl (det_add rfl rfl ⟨by omega, by omega⟩) ?_
    refine JA_pd (i := 20) rfl (by kernel_rfl) rfl rfl (det_min rfl rfl) ?_
    refine JA_pd (i := 21) rfl (by kernel_rfl) rfl rfl (det_nilCheck rfl) ?_
    refine JA_pd (i := 22) rfl (by kernel_rfl) rfl rfl (det_fieldAddr rfl fo_53_0) ?_
    refine JA_tail (i := 23) (by kernel_rfl) rfl rfl rfl rfl (jo_storeO rfl rfl rfl rfl Try.sizeOf3 (by rw [flat_len]; simp; omega) rfl) fun _ => ?_
    refine JT_pd (i := 24) rfl (by kernel_rfl) rfl rfl (det_nilCheck rfl) ?_
    refine JT_pd (i := 25) rfl (by kernel_rfl) rfl rfl (det_fieldAddr rfl fo_53_1) ?_
    refine JT_one (i := 26) (by kernel_rfl) rfl rfl (jo_storeO rfl rfl rfl rfl Try.sizeOf3 (by rw [splice_len, flat_len]; simp; omega) rfl) fun _ => ?_
    refine JT_done (by kernel_rfl) ?_
    refine JE_seq ?_
    refine JC_seq ?_
    refine JC_region ?_
    refine JL_pd rfl (det_fieldAddr rfl fo_57_0) ?_
    refine JL_pd rfl (det_fieldAddr rfl fo_53_0) ?_
    refine JL_dt rfl (det_loadK rfl Try.isAgg3 rfl) ?_
    refine JL_pd rfl (det_move rfl) ?_
    refine JL_pd rfl (det_convI rfl Try.runUnderlying5 Try.runUnderlying3 (i64_wrap ⟨by omega, by omega⟩)) ?_
    refine JL_pd rfl (det_rem rfl rfl (by omega)) ?_
    refine JL_pd rfl (det_sub rfl rfl ⟨by omega, by omega⟩) ?_
    refine JL_pd rfl (det_fieldAddr rfl fo_57_0) ?_
    refine JL_pd rfl (det_fieldAddr rfl fo_53_1) ?_
    refine JL_dt rfl (det_loadK rfl Try.isAgg3 rfl) ?_
    refine JL_pd rfl (det_move rfl) ?_
    refine JL_pd rfl (det_convI rfl Try.runUnderlying5 Try.runUnderlying3 (i64_wrap ⟨by omega, by omega⟩)) ?_
    refine JL_pd rfl (det_quo rfl rfl (by omega) ⟨by omega, by omega⟩) ?_
    refine JL_pd rfl (det_rem rfl rfl (by omega)) ?_
    refine JL_pd rfl (det_add rfl rfl ⟨by omega, by omega⟩) ?_
    refine JL_pd rfl (det_build rfl (bld_53_0_1 _ _)) ?_
    refine JL_pd rfl (det_fieldAddr rfl fo_57_1) ?_
    refine JL_pd rfl (det_fieldAddr rfl fo_53_0) ?_
    refine JL_dt rfl (det_loadK rfl Try.isAgg3 rfl) ?_
    refine JL_pd rfl (det_move rfl) ?_
    refine JL_pd rfl (det_convI rfl Try.runUnderlying5 Try.runUnderlying3 (i64_wrap ⟨by omega, by omega⟩)) ?_
    refine JL_pd rfl (det_quo rfl rfl (by omega) ⟨by omega, by omega⟩) ?_
    refine JL_pd rfl (det_rem rfl rfl (by omega)) ?_
    refine JL_pd rfl (det_sub rfl rfl ⟨by omega, by omega⟩) ?_
    refine JL_pd rfl (det_fieldAddr rfl fo_57_1) ?_
    refine JL_pd rfl (det_fieldAddr rfl fo_53_1) ?_
    refine JL_dt rfl (det_loadK rfl Try.isAgg3 rfl) ?_
    refine JL_pd rfl (det_move rfl) ?_
    refine JL_pd rfl (det_convI rfl Try.runUnderlying5 Try.runUnderlying3 (i64_wrap ⟨by omega, by omega⟩)) ?_
    refine JL_pd rfl (det_quo rfl rfl (by omega) ⟨by omega, by omega⟩) ?_
    refine JL_pd rfl (det_rem rfl rfl (by omega)) ?_
    refine JL_pd rfl (det_add rfl rfl ⟨by omega, by omega⟩) ?_
    refine JL_pd rfl (det_build rfl (bld_53_0_1 _ _)) ?_
    refine JL_pd rfl (det_build rfl (bld_57_0_1 _ _ _ _)) ?_
    refine JL_step rfl rfl rfl (jo_alloc0 Try.zeroValue57 rfl) fun b15 => ?_
    refine JL_step0 rfl rfl (jo_store rfl rfl rfl (by first | (simp only [splice_norm]; done) | (simp only [splice_norm]; rfl) | rfl) Try.sizeOf57 rfl rfl) fun _ => ?_
    refine JL_nil ?_
    refine JE_seq ?_
    refine JC_seq ?_
    refine JC_region ?_
    refine JL_pd rfl (det_move rfl) ?_
    refine JL_pd rfl (det_convI rfl Try.runUnderlying5 Try.runUnderlying3 (i64_wrap ⟨by omega, by omega⟩)) ?_
    refine JL_pd rfl (det_fieldAddr rfl fo_25_1) ?_
    refine JL_dt rfl (det_loadK rfl Try.isAgg3 rfl) ?_
    refine JL_pd rfl (det_rem rfl rfl (by omega)) ?_
    rw [hq]
    refine JL_slice (enc := encRg) (v := .slice (some ⟨xb, 0, none⟩) l.hooks.length xc) (widL l k hw).hooks noFp (by rw [← hw1, ← hw2]; exact splice_rec encRg l.hooks k hw hkl) hlen.symm ?_
    rintro _ _ h
    cases h
    refine JL_know (R' := KAnd (KLane (widL l k hw) (some ⟨xb, 0, none⟩) xc pa pc) (KLane l ha hc pa pc)) (by intro w h; exact ⟨⟨by rw [hlen]; exact h.1, h.2.2⟩, h.2⟩) ?_
    refine JL_pd rfl (det_assign rfl) ?_
    refine JL_nil ?_
    refine JE_seq ?_
    refine JC_seq ?_
    refine JC_draw [] (by kernel_rfl) ?_
    refine JA_dt (i := 0) rfl (by kernel_rfl) (by kernel_rfl) rfl rfl (det_loadKA rfl Try.isAgg25 Try.sizeOf25 rfl rfl) ?_
    refine JA_dt (i := 2) rfl (by kernel_rfl) (by kernel_rfl) rfl rfl (det_loadKA rfl Try.isAgg27 Try.sizeOf27 rfl rfl) ?_
    refine JA_pd (i := 4) rfl (by kernel_rfl) rfl rfl (det_move rfl) ?_
    -- stop: op  1 t152 := (call (Call (value f19) (t151) (25)))   <0>   168
    have hLx := hLx0 (some ⟨xb, 0, none⟩) xc
    refine JA_one (i := 1) (by kernel_rfl) rfl rfl (jo_call rfl rfl Try.call19 rfl (hLl)) (fun _ => ⟨hsub_drop 0 rfl, fun _ h => h.2⟩) fun x152 => ?_
    refine JA_one (i := 3) (by kernel_rfl) rfl rfl (jo_callv rfl rfl Try.call20 rfl (lStart_j s)) (fun _ => ⟨hsub_refl, fun _ h => h⟩) fun _ => ?_
    -- stop: op  5 t156 := (call (Call (value f18) (t152 t154 t155) (37 39 3)))   <1 3 4 3>   168
    refine JA_one (i := 5) (by kernel_rfl) rfl rfl (jo_call rfl rfl Try.call18 rfl (Reach_jo l s q x152.1.1 x152.2.1 x152.1.2 x152.2.2 he hql)) (fun _ => ⟨hsub_drop 0 rfl, fun _ h => h.2⟩) fun ⟨ra, rc⟩ => ?_
    refine JA_pd (i := 6) rfl (by kernel_rfl) rfl rfl (det_move rfl) ?_
    refine JA_pd (i := 7) rfl (by kernel_rfl) rfl rfl (det_extract rfl rfl) ?_
    refine JA_pd (i := 8) rfl (by kernel_rfl) rfl rfl (det_extract rfl rfl) ?_
    refine JA_pd (i := 9) rfl (by kernel_rfl) rfl rfl (det_extract rfl rfl) ?_
    refine JA_pd (i := 10) rfl (by kernel_rfl) rfl rfl (det_assign rfl) ?_
    refine JA_pd (i := 11) rfl (by kernel_rfl) rfl rfl (det_assign rfl) ?_
    refine JA_pd (i := 12) rfl (by kernel_rfl) rfl rfl (det_assign rfl) ?_
    refine JA_done (by kernel_rfl) ?_
    refine JE_seq ?_
    refine JC_seq ?_
    refine JC_draw [] (by kernel_rfl) ?_
    refine JA_dt (i := 0) rfl (by kernel_rfl) (by kernel_rfl) rfl rfl (det_loadKA rfl Try.isAgg25 Try.sizeOf25 rfl rfl) ?_
    refine JA_dt (i := 2) rfl (by kernel_rfl) (by kernel_rfl) rfl rfl (det_loadKA rfl Try.isAgg27 Try.sizeOf27 rfl rfl) ?_
    refine JA_pd (i := 4) rfl (by kernel_rfl) rfl rfl (det_move rfl) ?_
    -- stop: op  1 t162 := (call (Call (value f19) (t161) (25)))   <0>   169
    refine JA_one (i := 1) (by kernel_rfl) rfl rfl (jo_call rfl rfl Try.call19 rfl (hLx)) (fun _ => ⟨hsub_drop 0 rfl, fun _ h => h.2⟩) fun x162 => ?_
    refine JA_one (i := 3) (by kernel_rfl) rfl rfl (jo_callv rfl rfl Try.call20 rfl (lStart_j s)) (fun _ => ⟨hsub_refl, fun _ h => h⟩) fun _ => ?_
    -- stop: op  5 t166 := (call (Call (value f18) (t162 t164 t165) (37 39 3)))   <1 3 4 3>   169
    refine JA_one (i := 5) (by kernel_rfl) rfl rfl (jo_call rfl rfl Try.call18 rfl (hRx x162.1.1 x162.2.1 x162.1.2 x162.2.2)) (fun _ => ⟨hsub_drop 0 rfl, fun _ h => h.2⟩) fun ⟨rb, rd⟩ => ?_
    refine JA_pd (i := 6) rfl (by kernel_rfl) rfl rfl (det_move rfl) ?_
    refine JA_pd (i := 7) rfl (by kernel_rfl) rfl rfl (det_extract rfl rfl) ?_
    refine JA_pd (i := 8) rfl (by kernel_rfl) rfl rfl (det_extract rfl rfl) ?_
    refine JA_pd (i := 9) rfl (by kernel_rfl) rfl rfl (det_extract rfl rfl) ?_
    refine JA_pd (i := 10) rfl (by kernel_rfl) rfl rfl (det_assign rfl) ?_
    refine JA_pd (i := 11) rfl (by kernel_rfl) rfl rfl (det_assign rfl) ?_
    refine JA_pd (i := 12) rfl (by kernel_rfl) rfl rfl (det_assign rfl) ?_
    refine JA_done (by kernel_rfl) ?_
    refine JE_seq ?_
    refine JC_seq ?_
    -- stop: draw
    refine JC_cutN (γ := Nat) (fun _ => True) (fun b23 => [(23, pt b23), (24, I 0)]) (fun b23 => [bx b23 [I (turnV l s).lo, I (turnV l s).hi]]) (fun K hK => ?_) (fun b23 _ => ?_)
    · refine JC_draw [9] (by kernel_rfl) ?_
      refine JA_dt (i := 0) rfl (by kernel_rfl) (by kernel_rfl) rfl rfl (det_loadKA rfl Try.isAgg25 Try.sizeOf25 rfl rfl) ?_
      refine JA_dt (i := 2) rfl (by kernel_rfl) (by kernel_rfl) rfl rfl (det_loadKA rfl Try.isAgg27 Try.sizeOf27 rfl rfl) ?_
      refine JA_ready (rs := [1, 8]) (by kernel_rfl) rfl ?_
      refine JAl_cons (i := 1) rfl rfl (jo_call rfl rfl Try.call19 rfl (hLl)) (fun _ => ⟨hsub_drop 0 rfl, fun _ h => h.2⟩) (fun x172 => ?_) ?_
      · refine JA_ready (rs := [3, 8]) (by kernel_rfl) rfl ?_
        refine JAl_cons (i := 3) rfl rfl (jo_callv rfl rfl Try.call20 rfl (lStart_j s)) (fun _ => ⟨hsub_refl, fun _ h => h⟩) (fun _ => ?_) ?_
        · refine JA_ready (rs := [4, 8]) (by kernel_rfl) rfl ?_
          refine JAl_cons (i := 4) rfl rfl (jo_callv rfl rfl Try.call25 rfl (Turn_jo l s x172.1.1 x172.2.1 x172.1.2 x172.2.2 he)) (fun _ => ⟨hsub_refl, fun _ h => h⟩) (fun _ => ?_) ?_
          · refine JA_pd (i := 5) rfl (by kernel_rfl) rfl rfl (det_move rfl) ?_
            refine JA_pd (i := 6) rfl (by kernel_rfl) rfl rfl (det_extract rfl rfl) ?_
            refine JA_pd (i := 7) rfl (by kernel_rfl) rfl rfl (det_extract rfl rfl) ?_
            refine JA_one (i := 8) (by kernel_rfl) rfl rfl (jo_alloc0 Try.zeroValue49 rfl) (fun _ => ⟨hsub_drop 1 rfl, fun _ h => h⟩) fun b23 => ?_
            refine JA_tail (i := 9) (by kernel_rfl) rfl rfl rfl rfl (jo_store rfl rfl rfl (by first | (simp only [splice_norm]; done) | (simp only [splice_norm]; rfl) | rfl) Try.sizeOf49 rfl rfl) fun _ => ?_
            refine JT_pd (i := 10) rfl (by kernel_rfl) rfl rfl (det_assign rfl) ?_
            refine JT_done (by kernel_rfl) ?_
            exact JE_cutF hK b23 trivial (stsub_cons rfl (stsub_cons rfl stsub_nil)) (ht_cons ht_nil)
          refine JAl_cons (i := 8) rfl rfl (jo_alloc0 Try.zeroValue49 rfl) (fun _ => ⟨hsub_drop 1 rfl, fun _ h => h⟩) (fun b23 => ?_) ?_
          · refine JA_one (i := 4) (by kernel_rfl) rfl rfl (jo_callv rfl rfl Try.call25 rfl (Turn_jo l s x172.1.1 x172.2.1 x172.1.2 x172.2.2 he)) (fun _ => ⟨hsub_refl, fun _ h => h⟩) fun _ => ?_
            refine JA_pd (i := 5) rfl (by kernel_rfl) rfl rfl (det_move rfl) ?_
            refine JA_pd (i := 6) rfl (by kernel_rfl) rfl rfl (det_extract rfl rfl) ?_
            refine JA_pd (i := 7) rfl (by kernel_rfl) rfl rfl (det_extract rfl rfl) ?_
            refine JA_tail (i := 9) (by kernel_rfl) rfl rfl rfl rfl (jo_store rfl rfl rfl (by first | (simp only [splice_norm]; done) | (simp only [splice_norm]; rfl) | rfl) Try.sizeOf49 rfl rfl) fun _ => ?_
            refine JT_pd (i := 10) rfl (by kernel_rfl) rfl rfl (det_assign rfl) ?_
            refine JT_done (by kernel_rfl) ?_
            exact JE_cutF hK b23 trivial (stsub_cons rfl (stsub_cons rfl stsub_nil)) (ht_cons ht_nil)
          exact JAl_nil
        refine JAl_cons (i := 8) rfl rfl (jo_alloc0 Try.zeroValue49 rfl) (fun _ => ⟨hsub_drop 1 rfl, fun _ h => h⟩) (fun b23 => ?_) ?_
        · refine JA_one (i := 3) (by kernel_rfl) rfl rfl (jo_callv rfl rfl Try.call20 rfl (lStart_j s)) (fun _ => ⟨hsub_refl, fun _ h => h⟩) fun _ => ?_
          refine JA_one (i := 4) (by kernel_rfl) rfl rfl (jo_callv rfl rfl Try.call25 rfl (Turn_jo l s x172.1.1 x172.2.1 x172.1.2 x172.2.2 he)) (fun _ => ⟨hsub_refl, fun _ h => h⟩) fun _ => ?_
          refine JA_pd (i := 5) rfl (by kernel_rfl) rfl rfl (det_move rfl) ?_
          refine JA_pd (i := 6) rfl (by kernel_rfl) rfl rfl (det_extract rfl rfl) ?_
          refine JA_pd (i := 7) rfl (by kernel_rfl) rfl rfl (det_extract rfl rfl) ?_
          refine JA_tail (i := 9) (by kernel_rfl) rfl rfl rfl rfl (jo_store rfl rfl rfl (by first | (simp only [splice_norm]; done) | (simp only [splice_norm]; rfl) | rfl) Try.sizeOf49 rfl rfl) fun _ => ?_
          refine JT_pd (i := 10) rfl (by kernel_rfl) rfl rfl (det_assign rfl) ?_
          refine JT_done (by kernel_rfl) ?_
          exact JE_cutF hK b23 trivial (stsub_cons rfl (stsub_cons rfl stsub_nil)) (ht_cons ht_nil)
        exact JAl_nil
      refine JAl_cons (i := 8) rfl rfl (jo_alloc0 Try.zeroValue49 rfl) (fun _ => ⟨hsub_drop 1 rfl, fun _ h => h⟩) (fun b23 => ?_) ?_
      · refine JA_one (i := 1) (by kernel_rfl) rfl rfl (jo_call rfl rfl Try.call19 rfl (hLl)) (fun _ => ⟨hsub_drop 0 rfl, fun _ h => h.2⟩) fun x172 => ?_
        refine JA_one (i := 3) (by kernel_rfl) rfl rfl (jo_callv rfl rfl Try.call20 rfl (lStart_j s)) (fun _ => ⟨hsub_refl, fun _ h => h⟩) fun _ => ?_
        refine JA_one (i := 4) (by kernel_rfl) rfl rfl (jo_callv rfl rfl Try.call25 rfl (Turn_jo l s x172.1.1 x172.2.1 x172.1.2 x172.2.2 he)) (fun _ => ⟨hsub_refl, fun _ h => h⟩) fun _ => ?_
        refine JA_pd (i := 5) rfl (by kernel_rfl) rfl rfl (det_move rfl) ?_
        refine JA_pd (i := 6) rfl (by kernel_rfl) rfl rfl (det_extract rfl rfl) ?_
        refine JA_pd (i := 7) rfl (by kernel_rfl) rfl rfl (det_extract rfl rfl) ?_
        refine JA_tail (i := 9) (by kernel_rfl) rfl rfl rfl rfl (jo_store rfl rfl rfl (by first | (simp only [splice_norm]; done) | (simp only [splice_norm]; rfl) | rfl) Try.sizeOf49 rfl rfl) fun _ => ?_
        refine JT_pd (i := 10) rfl (by kernel_rfl) rfl rfl (det_assign rfl) ?_
        refine JT_done (by kernel_rfl) ?_
        exact JE_cutF hK b23 trivial (stsub_cons rfl (stsub_cons rfl stsub_nil)) (ht_cons ht_nil)
      exact JAl_nil
    dsimp only [List.cons_append, List.nil_append]
    refine JC_seq ?_
    -- stop: draw
    refine JC_cutN (γ := Nat) (fun _ => True) (fun b25 => [(25, pt b25), (26, I 0)]) (fun b25 => [bx b25 [I (turnV (widL l k hw) s).lo, I (turnV (widL l k hw) s).hi]]) (fun K hK => ?_) (fun b25 _ => ?_)
    · refine JC_draw [9] (by kernel_rfl) ?_
      refine JA_dt (i := 0) rfl (by kernel_rfl) (by kernel_rfl) rfl rfl (det_loadKA rfl Try.isAgg25 Try.sizeOf25 rfl rfl) ?_
      refine JA_dt (i := 2) rfl (by kernel_rfl) (by kernel_rfl) rfl rfl (det_loadKA rfl Try.isAgg27 Try.sizeOf27 rfl rfl) ?_
      refine JA_ready (rs := [1, 8]) (by kernel_rfl) rfl ?_
      refine JAl_cons (i := 1) rfl rfl (jo_call rfl rfl Try.call19 rfl (hLx)) (fun _ => ⟨hsub_drop 0 rfl, fun _ h => h.2⟩) (fun x180 => ?_) ?_
      · refine JA_ready (rs := [3, 8]) (by kernel_rfl) rfl ?_
        refine JAl_cons (i := 3) rfl rfl (jo_callv rfl rfl Try.call20 rfl (lStart_j s)) (fun _ => ⟨hsub_refl, fun _ h => h⟩) (fun _ => ?_) ?_
        · refine JA_ready (rs := [4, 8]) (by kernel_rfl) rfl ?_
          refine JAl_cons (i := 4) rfl rfl (jo_callv rfl rfl Try.call25 rfl (hTx x180.1.1 x180.2.1 x180.1.2 x180.2.2)) (fun _ => ⟨hsub_refl, fun _ h => h⟩) (fun _ => ?_) ?_
          · refine JA_pd (i := 5) rfl (by kernel_rfl) rfl rfl (det_move rfl) ?_
            refine JA_pd (i := 6) rfl (by kernel_rfl) rfl rfl (det_extract rfl rfl) ?_
            refine JA_pd (i := 7) rfl (by kernel_rfl) rfl rfl (det_extract rfl rfl) ?_
            refine JA_one (i := 8) (by kernel_rfl) rfl rfl (jo_alloc0 Try.zeroValue49 rfl) (fun _ => ⟨hsub_drop 1 rfl, fun _ h => h⟩) fun b25 => ?_
            refine JA_tail (i := 9) (by kernel_rfl) rfl rfl rfl rfl (jo_store rfl rfl rfl (by first | (simp only [splice_norm]; done) | (simp only [splice_norm]; rfl) | rfl) Try.sizeOf49 rfl rfl) fun _ => ?_
            refine JT_pd (i := 10) rfl (by kernel_rfl) rfl rfl (det_assign rfl) ?_
            refine JT_done (by kernel_rfl) ?_
            exact JE_cutF hK b25 trivial (stsub_cons rfl (stsub_cons rfl stsub_nil)) (ht_cons ht_nil)
          refine JAl_cons (i := 8) rfl rfl (jo_alloc0 Try.zeroValue49 rfl) (fun _ => ⟨hsub_drop 1 rfl, fun _ h => h⟩) (fun b25 => ?_) ?_
          · refine JA_one (i := 4) (by kernel_rfl) rfl rfl (jo_callv rfl rfl Try.call25 rfl (hTx x180.1.1 x180.2.1 x180.1.2 x180.2.2)) (fun _ => ⟨hsub_refl, fun _ h => h⟩) fun _ => ?_
            refine JA_pd (i := 5) rfl (by kernel_rfl) rfl rfl (det_move rfl) ?_
            refine JA_pd (i := 6) rfl (by kernel_rfl) rfl rfl (det_extract rfl rfl) ?_
            refine JA_pd (i := 7) rfl (by kernel_rfl) rfl rfl (det_extract rfl rfl) ?_
            refine JA_tail (i := 9) (by kernel_rfl) rfl rfl rfl rfl (jo_store rfl rfl rfl (by first | (simp only [splice_norm]; done) | (simp only [splice_norm]; rfl) | rfl) Try.sizeOf49 rfl rfl) fun _ => ?_
            refine JT_pd (i := 10) rfl (by kernel_rfl) rfl rfl (det_assign rfl) ?_
            refine JT_done (by kernel_rfl) ?_
            exact JE_cutF hK b25 trivial (stsub_cons rfl (stsub_cons rfl stsub_nil)) (ht_cons ht_nil)
          exact JAl_nil
        refine JAl_cons (i := 8) rfl rfl (jo_alloc0 Try.zeroValue49 rfl) (fun _ => ⟨hsub_drop 1 rfl, fun _ h => h⟩) (fun b25 => ?_) ?_
        · refine JA_one (i := 3) (by kernel_rfl) rfl rfl (jo_callv rfl rfl Try.call20 rfl (lStart_j s)) (fun _ => ⟨hsub_refl, fun _ h => h⟩) fun _ => ?_
          refine JA_one (i := 4) (by kernel_rfl) rfl rfl (jo_callv rfl rfl Try.call25 rfl (hTx x180.1.1 x180.2.1 x180.1.2 x180.2.2)) (fun _ => ⟨hsub_refl, fun _ h => h⟩) fun _ => ?_
          refine JA_pd (i := 5) rfl (by kernel_rfl) rfl rfl (det_move rfl) ?_
          refine JA_pd (i := 6) rfl (by kernel_rfl) rfl rfl (det_extract rfl rfl) ?_
          refine JA_pd (i := 7) rfl (by kernel_rfl) rfl rfl (det_extract rfl rfl) ?_
          refine JA_tail (i := 9) (by kernel_rfl) rfl rfl rfl rfl (jo_store rfl rfl rfl (by first | (simp only [splice_norm]; done) | (simp only [splice_norm]; rfl) | rfl) Try.sizeOf49 rfl rfl) fun _ => ?_
          refine JT_pd (i := 10) rfl (by kernel_rfl) rfl rfl (det_assign rfl) ?_
          refine JT_done (by kernel_rfl) ?_
          exact JE_cutF hK b25 trivial (stsub_cons rfl (stsub_cons rfl stsub_nil)) (ht_cons ht_nil)
        exact JAl_nil
      refine JAl_cons (i := 8) rfl rfl (jo_alloc0 Try.zeroValue49 rfl) (fun _ => ⟨hsub_drop 1 rfl, fun _ h => h⟩) (fun b25 => ?_) ?_
      · refine JA_one (i := 1) (by kernel_rfl) rfl rfl (jo_call rfl rfl Try.call19 rfl (hLx)) (fun _ => ⟨hsub_drop 0 rfl, fun _ h => h.2⟩) fun x180 => ?_
        refine JA_one (i := 3) (by kernel_rfl) rfl rfl (jo_callv rfl rfl Try.call20 rfl (lStart_j s)) (fun _ => ⟨hsub_refl, fun _ h => h⟩) fun _ => ?_
        refine JA_one (i := 4) (by kernel_rfl) rfl rfl (jo_callv rfl rfl Try.call25 rfl (hTx x180.1.1 x180.2.1 x180.1.2 x180.2.2)) (fun _ => ⟨hsub_refl, fun _ h => h⟩) fun _ => ?_
        refine JA_pd (i := 5) rfl (by kernel_rfl) rfl rfl (det_move rfl) ?_
        refine JA_pd (i := 6) rfl (by kernel_rfl) rfl rfl (det_extract rfl rfl) ?_
        refine JA_pd (i := 7) rfl (by kernel_rfl) rfl rfl (det_extract rfl rfl) ?_
        refine JA_tail (i := 9) (by kernel_rfl) rfl rfl rfl rfl (jo_store rfl rfl rfl (by first | (simp only [splice_norm]; done) | (simp only [splice_norm]; rfl) | rfl) Try.sizeOf49 rfl rfl) fun _ => ?_
        refine JT_pd (i := 10) rfl (by kernel_rfl) rfl rfl (det_assign rfl) ?_
        refine JT_done (by kernel_rfl) ?_
        exact JE_cutF hK b25 trivial (stsub_cons rfl (stsub_cons rfl stsub_nil)) (ht_cons ht_nil)
      exact JAl_nil
    dsimp only [List.cons_append, List.nil_append]
    refine JC_seq ?_
    -- stop: draw
    refine JC_draw [] (by kernel_rfl) ?_
    refine JA_dt (i := 0) rfl (by kernel_rfl) (by kernel_rfl) rfl rfl (det_loadKA rfl Try.isAgg25 Try.sizeOf25 rfl rfl) ?_
    refine JA_dt (i := 2) rfl (by kernel_rfl) (by kernel_rfl) rfl rfl (det_loadKA rfl Try.isAgg57 Try.sizeOf57 rfl rfl) ?_
    refine JA_one (i := 1) (by kernel_rfl) rfl rfl (jo_call rfl rfl Try.call19 rfl (hLl)) (fun _ => ⟨hsub_drop 0 rfl, fun _ h => h.2⟩) fun x188 => ?_
    refine JA_one (i := 3) (by kernel_rfl) rfl rfl (jo_callv rfl rfl Try.call30 rfl (lPocket_j ⟨⟨_, _⟩, ⟨_, _⟩⟩)) (fun _ => ⟨hsub_refl, fun _ h => h⟩) fun _ => ?_
    -- stop: op  4 t191 := (call (Call (value f29) (t188 t190) (37 62)))   <1 3 3>   172
    refine JA_one (i := 4) (by kernel_rfl) rfl rfl (jo_call rfl rfl Try.call29 rfl (Aims_jo l p x188.1.1 x188.2.1 x188.1.2 x188.2.2 haP)) (fun _ => ⟨hsub_drop 0 rfl, fun _ h => h.2⟩) fun ⟨ma, mc⟩ => ?_
    refine JA_pd (i := 5) rfl (by kernel_rfl) rfl rfl (det_move rfl) ?_
    refine JA_pd (i := 6) rfl (by kernel_rfl) rfl rfl (det_extract rfl rfl) ?_
    refine JA_pd (i := 7) rfl (by kernel_rfl) rfl rfl (det_extract rfl rfl) ?_
    refine JA_pd (i := 8) rfl (by kernel_rfl) rfl rfl (det_assign rfl) ?_
    refine JA_pd (i := 9) rfl (by kernel_rfl) rfl rfl (det_assign rfl) ?_
    refine JA_done (by kernel_rfl) ?_
    refine JE_seq ?_
    refine JC_seq ?_
    -- stop: draw
    refine JC_draw [] (by kernel_rfl) ?_
    refine JA_dt (i := 0) rfl (by kernel_rfl) (by kernel_rfl) rfl rfl (det_loadKA rfl Try.isAgg25 Try.sizeOf25 rfl rfl) ?_
    refine JA_dt (i := 2) rfl (by kernel_rfl) (by kernel_rfl) rfl rfl (det_loadKA rfl Try.isAgg57 Try.sizeOf57 rfl rfl) ?_
    refine JA_one (i := 1) (by kernel_rfl) rfl rfl (jo_call rfl rfl Try.call19 rfl (hLx)) (fun _ => ⟨hsub_drop 0 rfl, fun _ h => h.2⟩) fun x196 => ?_
    refine JA_one (i := 3) (by kernel_rfl) rfl rfl (jo_callv rfl rfl Try.call30 rfl (lPocket_j ⟨⟨_, _⟩, ⟨_, _⟩⟩)) (fun _ => ⟨hsub_refl, fun _ h => h⟩) fun _ => ?_
    -- stop: op  4 t199 := (call (Call (value f29) (t196 t198) (37 62)))   <1 3 3>   173
    refine JA_one (i := 4) (by kernel_rfl) rfl rfl (jo_call rfl rfl Try.call29 rfl (hAx x196.1.1 x196.2.1 x196.1.2 x196.2.2)) (fun _ => ⟨hsub_drop 0 rfl, fun _ h => h.2⟩) fun ⟨na, nc⟩ => ?_
    refine JA_pd (i := 5) rfl (by kernel_rfl) rfl rfl (det_move rfl) ?_
    refine JA_pd (i := 6) rfl (by kernel_rfl) rfl rfl (det_extract rfl rfl) ?_
    refine JA_pd (i := 7) rfl (by kernel_rfl) rfl rfl (det_extract rfl rfl) ?_
    refine JA_pd (i := 8) rfl (by kernel_rfl) rfl rfl (det_assign rfl) ?_
    refine JA_pd (i := 9) rfl (by kernel_rfl) rfl rfl (det_assign rfl) ?_
    refine JA_done (by kernel_rfl) ?_
    refine JE_seq ?_
    refine JC_seq ?_
    -- stop: draw
    refine JC_draw [] (by kernel_rfl) ?_
    refine JA_dt (i := 0) rfl (by kernel_rfl) (by kernel_rfl) rfl rfl (det_loadKA rfl Try.isAgg25 Try.sizeOf25 rfl rfl) ?_
    refine JA_dt (i := 2) rfl (by kernel_rfl) (by kernel_rfl) rfl rfl (det_loadKA rfl Try.isAgg57 Try.sizeOf57 rfl rfl) ?_
    refine JA_one (i := 1) (by kernel_rfl) rfl rfl (jo_call rfl rfl Try.call19 rfl (hLl)) (fun _ => ⟨hsub_drop 0 rfl, fun _ h => h.2⟩) fun x204 => ?_
    refine JA_one (i := 3) (by kernel_rfl) rfl rfl (jo_callv rfl rfl Try.call30 rfl (lPocket_j ⟨⟨_, _⟩, ⟨_, _⟩⟩)) (fun _ => ⟨hsub_refl, fun _ h => h⟩) fun _ => ?_
    -- stop: op  4 t207 := (call (Call (value f29) (t204 t206) (37 62)))   <1 3 3>   174
    refine JA_one (i := 4) (by kernel_rfl) rfl rfl (jo_call rfl rfl Try.call29 rfl (Aims_jo l (widP p by_) x204.1.1 x204.2.1 x204.1.2 x204.2.2 haQ)) (fun _ => ⟨hsub_drop 0 rfl, fun _ h => h.2⟩) fun ⟨wa, wc⟩ => ?_
    refine JA_pd (i := 5) rfl (by kernel_rfl) rfl rfl (det_move rfl) ?_
    refine JA_pd (i := 6) rfl (by kernel_rfl) rfl rfl (det_extract rfl rfl) ?_
    refine JA_pd (i := 7) rfl (by kernel_rfl) rfl rfl (det_extract rfl rfl) ?_
    refine JA_pd (i := 8) rfl (by kernel_rfl) rfl rfl (det_assign rfl) ?_
    refine JA_pd (i := 9) rfl (by kernel_rfl) rfl rfl (det_assign rfl) ?_
    refine JA_done (by kernel_rfl) ?_
    refine JE_seq ?_
    refine JC_seq ?_
    refine JC_draw [] (by kernel_rfl) ?_
    refine JA_dt (i := 0) rfl (by kernel_rfl) (by kernel_rfl) rfl rfl (det_loadKA rfl Try.isAgg25 Try.sizeOf25 rfl rfl) ?_
    refine JA_dt (i := 2) rfl (by kernel_rfl) (by kernel_rfl) rfl rfl (det_loadKA rfl Try.isAgg27 Try.sizeOf27 rfl rfl) ?_
    refine JA_dt (i := 4) rfl (by kernel_rfl) (by kernel_rfl) rfl rfl (det_loadKA rfl Try.isAgg57 Try.sizeOf57 rfl rfl) ?_
    refine JA_one (i := 1) (by kernel_rfl) rfl rfl (jo_call rfl rfl Try.call19 rfl (hLl)) (fun _ => ⟨hsub_drop 0 rfl, fun _ h => h.2⟩) fun x212 => ?_
    refine JA_one (i := 3) (by kernel_rfl) rfl rfl (jo_callv rfl rfl Try.call20 rfl (lStart_j s)) (fun _ => ⟨hsub_refl, fun _ h => h⟩) fun _ => ?_
    refine JA_one (i := 5) (by kernel_rfl) rfl rfl (jo_callv rfl rfl Try.call30 rfl (lPocket_j ⟨⟨_, _⟩, ⟨_, _⟩⟩)) (fun _ => ⟨hsub_refl, fun _ h => h⟩) fun _ => ?_
    -- stop: op  6 t217 := (call (Call (value f45) (t212 t214 t216) (37 39 62)))   <1 3 5 5>   175
    refine JA_one (i := 6) (by kernel_rfl) rfl rfl (jo_callv rfl rfl Try.call45 rfl (Hits_jo l s p x212.1.1 x212.2.1 x212.1.2 x212.2.2 heP)) (fun _ => ⟨hsub_refl, fun _ h => h⟩) fun _ => ?_
    refine JA_pd (i := 7) rfl (by kernel_rfl) rfl rfl (det_move rfl) ?_
    refine JA_pd (i := 8) rfl (by kernel_rfl) rfl rfl (det_extract rfl rfl) ?_
    refine JA_pd (i := 9) rfl (by kernel_rfl) rfl rfl (det_extract rfl rfl) ?_
    refine JA_pd (i := 10) rfl (by kernel_rfl) rfl rfl (det_assign rfl) ?_
    refine JA_pd (i := 11) rfl (by kernel_rfl) rfl rfl (det_assign rfl) ?_
    refine JA_done (by kernel_rfl) ?_
    refine JE_seq ?_
    refine JC_seq ?_
    refine JC_draw [] (by kernel_rfl) ?_
    refine JA_dt (i := 0) rfl (by kernel_rfl) (by kernel_rfl) rfl rfl (det_loadKA rfl Try.isAgg25 Try.sizeOf25 rfl rfl) ?_
    refine JA_dt (i := 2) rfl (by kernel_rfl) (by kernel_rfl) rfl rfl (det_loadKA rfl Try.isAgg27 Try.sizeOf27 rfl rfl) ?_
    refine JA_dt (i := 4) rfl (by kernel_rfl) (by kernel_rfl) rfl rfl (det_loadKA rfl Try.isAgg57 Try.sizeOf57 rfl rfl) ?_
    refine JA_one (i := 1) (by kernel_rfl) rfl rfl (jo_call rfl rfl Try.call19 rfl (hLl)) (fun _ => ⟨hsub_drop 0 rfl, fun _ h => h.2⟩) fun x222 => ?_
    refine JA_one (i := 3) (by kernel_rfl) rfl rfl (jo_callv rfl rfl Try.call20 rfl (lStart_j s)) (fun _ => ⟨hsub_refl, fun _ h => h⟩) fun _ => ?_
    refine JA_one (i := 5) (by kernel_rfl) rfl rfl (jo_callv rfl rfl Try.call30 rfl (lPocket_j ⟨⟨_, _⟩, ⟨_, _⟩⟩)) (fun _ => ⟨hsub_refl, fun _ h => h⟩) fun _ => ?_
    -- stop: op  6 t227 := (call (Call (value f45) (t222 t224 t226) (37 39 62)))   <1 3 5 5>   176
    refine JA_one (i := 6) (by kernel_rfl) rfl rfl (jo_callv rfl rfl Try.call45 rfl (Hits_jo l s (widP p by_) x222.1.1 x222.2.1 x222.1.2 x222.2.2 heQ)) (fun _ => ⟨hsub_refl, fun _ h => h⟩) fun _ => ?_
    refine JA_pd (i := 7) rfl (by kernel_rfl) rfl rfl (det_move rfl) ?_
    refine JA_pd (i := 8) rfl (by kernel_rfl) rfl rfl (det_extract rfl rfl) ?_
    refine JA_pd (i := 9) rfl (by kernel_rfl) rfl rfl (det_extract rfl rfl) ?_
    refine JA_pd (i := 10) rfl (by kernel_rfl) rfl rfl (det_assign rfl) ?_
    refine JA_pd (i := 11) rfl (by kernel_rfl) rfl rfl (det_assign rfl) ?_
    refine JA_done (by kernel_rfl) ?_
    refine JE_seq ?_
    refine JC_seq ?_
    refine JC_seq ?_
    refine JC_region ?_
    refine JL_pd rfl (det_move rfl) ?_
    refine JL_pd rfl (det_neq rfl rfl) ?_
    refine JL_pd rfl (det_move rfl) ?_
    -- stop: guard 2
    refine JL_join1 31 263 (.bool false) (fun hj => ?_) ?_
    · refine JL_split (d0 := 232) rfl (fun q6 => ?_) (fun q6 => ?_)
      · refine JL_skip rfl rfl q6 rfl ?_
        refine JL_skip rfl rfl q6 rfl ?_
        refine JL_pd rfl (det_pick_t rfl q6 rfl) ?_
        refine JL_pd rfl (det_move rfl) ?_
        refine JL_skip rfl rfl rfl rfl ?_
        refine JL_skip rfl rfl rfl rfl ?_
        refine JL_pd rfl (det_pick_t rfl rfl rfl) ?_
        refine JL_pd rfl (det_move rfl) ?_
        refine JL_skip rfl rfl rfl rfl ?_
        refine JL_skip rfl rfl rfl rfl ?_
        refine JL_pd rfl (det_pick_t rfl rfl rfl) ?_
        refine JL_pd rfl (det_move rfl) ?_
        refine JL_skip rfl rfl rfl rfl ?_
        refine JL_skip rfl rfl rfl rfl ?_
        refine JL_pd rfl (det_pick_t rfl rfl rfl) ?_
        refine JL_pd rfl (det_move rfl) ?_
        refine JL_skip rfl rfl rfl rfl ?_
        refine JL_skip rfl rfl rfl rfl ?_
        refine JL_pd rfl (det_pick_t rfl rfl rfl) ?_
        refine JL_pd rfl (det_move rfl) ?_
        refine JL_skip rfl rfl rfl rfl ?_
        refine JL_skip rfl rfl rfl rfl ?_
        refine JL_pd rfl (det_pick_t rfl rfl rfl) ?_
        refine JL_pd rfl (det_move rfl) ?_
        refine JL_skip rfl rfl rfl rfl ?_
        refine JL_skip rfl rfl rfl rfl ?_
        refine JL_pd rfl (det_pick_t rfl rfl rfl) ?_
        refine JL_pd rfl (det_move rfl) ?_
        refine JL_skip rfl rfl rfl rfl ?_
        refine JL_skip rfl rfl rfl rfl ?_
        refine JL_pd rfl (det_pick_t rfl rfl rfl) ?_
        exact hj (by kernel_rfl) (stsub_consB rfl (by clear hj; first | rfl | (simp only [q6, Bool.and_true, Bool.true_and, Bool.false_and, Bool.and_false, Bool.or_true, Bool.true_or, Bool.or_false, Bool.false_or, Bool.not_true, Bool.not_false]; done) | (simp [q6]; done) | (simp at q6; done) | (simp [q6] <;> omega) | (exfalso; simp at q6; omega)) stsub_nil)
      · refine JL_guard rfl rfl q6 ?_
        refine JL_pd rfl (det_move rfl) ?_
        refine JL_guard rfl rfl q6 ?_
        refine JL_pd rfl (det_neq rfl rfl) ?_
        refine JL_pd rfl (det_pick_f rfl q6 rfl) ?_
        refine JL_pd rfl (det_move rfl) ?_
        refine JL_split (d0 := 236) rfl (fun q7 => ?_) (fun q7 => ?_)
        · refine JL_skip rfl rfl q7 rfl ?_
          refine JL_skip rfl rfl q7 rfl ?_
          refine JL_pd rfl (det_pick_t rfl q7 rfl) ?_
          refine JL_pd rfl (det_move rfl) ?_
          refine JL_skip rfl rfl rfl rfl ?_
          refine JL_skip rfl rfl rfl rfl ?_
          refine JL_pd rfl (det_pick_t rfl rfl rfl) ?_
          refine JL_pd rfl (det_move rfl) ?_
          refine JL_skip rfl rfl rfl rfl ?_
          refine JL_skip rfl rfl rfl rfl ?_
          refine JL_pd rfl (det_pick_t rfl rfl rfl) ?_
          refine JL_pd rfl (det_move rfl) ?_
          refine JL_skip rfl rfl rfl rfl ?_
          refine JL_skip rfl rfl rfl rfl ?_
          refine JL_pd rfl (det_pick_t rfl rfl rfl) ?_
          refine JL_pd rfl (det_move rfl) ?_
          refine JL_skip rfl rfl rfl rfl ?_
          refine JL_skip rfl rfl rfl rfl ?_
          refine JL_pd rfl (det_pick_t rfl rfl rfl) ?_
          refine JL_pd rfl (det_move rfl) ?_
          refine JL_skip rfl rfl rfl rfl ?_
          refine JL_skip rfl rfl rfl rfl ?_
          refine JL_pd rfl (det_pick_t rfl rfl rfl) ?_
          refine JL_pd rfl (det_move rfl) ?_
          refine JL_skip rfl rfl rfl rfl ?_
          refine JL_skip rfl rfl rfl rfl ?_
          refine JL_pd rfl (det_pick_t rfl rfl rfl) ?_
          exact hj (by kernel_rfl) (stsub_consB rfl (by clear hj; first | rfl | (simp only [q6, q7, Bool.and_true, Bool.true_and, Bool.false_and, Bool.and_false, Bool.or_true, Bool.true_or, Bool.or_false, Bool.false_or, Bool.not_true, Bool.not_false]; done) | (simp [q6, q7]; done) | (simp at q6; done) | (simp at q7; done) | (simp [q6, q7] <;> omega) | (exfalso; simp at q6 q7; omega) | (simp [q7] at q6; done) | (simp [q6] at q7; done)) stsub_nil)
        · refine JL_guard rfl rfl q7 ?_
          refine JL_pd rfl (det_move rfl) ?_
          refine JL_guard rfl rfl q7 ?_
          refine JL_pd rfl (det_neq rfl rfl) ?_
          refine JL_pd rfl (det_pick_f rfl q7 rfl) ?_
          refine JL_pd rfl (det_move rfl) ?_
          refine JL_split (d0 := 240) rfl (fun q8 => ?_) (fun q8 => ?_)
          · refine JL_skip rfl rfl q8 rfl ?_
            refine JL_skip rfl rfl q8 rfl ?_
            refine JL_pd rfl (det_pick_t rfl q8 rfl) ?_
            refine JL_pd rfl (det_move rfl) ?_
            refine JL_skip rfl rfl rfl rfl ?_
            refine JL_skip rfl rfl rfl rfl ?_
            refine JL_pd rfl (det_pick_t rfl rfl rfl) ?_
            refine JL_pd rfl (det_move rfl) ?_
            refine JL_skip rfl rfl rfl rfl ?_
            refine JL_skip rfl rfl rfl rfl ?_
            refine JL_pd rfl (det_pick_t rfl rfl rfl) ?_
            refine JL_pd rfl (det_move rfl) ?_
            refine JL_skip rfl rfl rfl rfl ?_
            refine JL_skip rfl rfl rfl rfl ?_
            refine JL_pd rfl (det_pick_t rfl rfl rfl) ?_
            refine JL_pd rfl (det_move rfl) ?_
            refine JL_skip rfl rfl rfl rfl ?_
            refine JL_skip rfl rfl rfl rfl ?_
            refine JL_pd rfl (det_pick_t rfl rfl rfl) ?_
            refine JL_pd rfl (det_move rfl) ?_
            refine JL_skip rfl rfl rfl rfl ?_
            refine JL_skip rfl rfl rfl rfl ?_
            refine JL_pd rfl (det_pick_t rfl rfl rfl) ?_
            exact hj (by kernel_rfl) (stsub_consB rfl (by clear hj; first | rfl | (simp only [q6, q7, q8, Bool.and_true, Bool.true_and, Bool.false_and, Bool.and_false, Bool.or_true, Bool.true_or, Bool.or_false, Bool.false_or, Bool.not_true, Bool.not_false]; done) | (simp [q6, q7, q8]; done) | (simp at q6; done) | (simp at q7; done) | (simp at q8; done) | (simp [q6, q7, q8] <;> omega) | (exfalso; simp at q6 q7 q8; omega) | (simp [q7, q8] at q6; done) | (simp [q6, q8] at q7; done) | (simp [q6, q7] at q8; done)) stsub_nil)
          · refine JL_guard rfl rfl q8 ?_
            refine JL_pd rfl (det_move rfl) ?_
            refine JL_guard rfl rfl q8 ?_
            refine JL_pd rfl (det_neq rfl rfl) ?_
            refine JL_pd rfl (det_pick_f rfl q8 rfl) ?_
            refine JL_pd rfl (det_move rfl) ?_
            refine JL_split (d0 := 244) rfl (fun q9 => ?_) (fun q9 => ?_)
            · refine JL_skip rfl rfl q9 rfl ?_
              refine JL_skip rfl rfl q9 rfl ?_
              refine JL_pd rfl (det_pick_t rfl q9 rfl) ?_
              refine JL_pd rfl (det_move rfl) ?_
              refine JL_skip rfl rfl rfl rfl ?_
              refine JL_skip rfl rfl rfl rfl ?_
              refine JL_pd rfl (det_pick_t rfl rfl rfl) ?_
              refine JL_pd rfl (det_move rfl) ?_
              refine JL_skip rfl rfl rfl rfl ?_
              refine JL_skip rfl rfl rfl rfl ?_
              refine JL_pd rfl (det_pick_t rfl rfl rfl) ?_
              refine JL_pd rfl (det_move rfl) ?_
              refine JL_skip rfl rfl rfl rfl ?_
              refine JL_skip rfl rfl rfl rfl ?_
              refine JL_pd rfl (det_pick_t rfl rfl rfl) ?_
              refine JL_pd rfl (det_move rfl) ?_
              refine JL_skip rfl rfl rfl rfl ?_
              refine JL_skip rfl rfl rfl rfl ?_
              refine JL_pd rfl (det_pick_t rfl rfl rfl) ?_
              exact hj (by kernel_rfl) (stsub_consB rfl (by clear hj; first | rfl | (simp only [q6, q7, q8, q9, Bool.and_true, Bool.true_and, Bool.false_and, Bool.and_false, Bool.or_true, Bool.true_or, Bool.or_false, Bool.false_or, Bool.not_true, Bool.not_false]; done) | (simp [q6, q7, q8, q9]; done) | (simp at q6; done) | (simp at q7; done) | (simp at q8; done) | (simp at q9; done) | (simp [q6, q7, q8, q9] <;> omega) | (exfalso; simp at q6 q7 q8 q9; omega) | (simp [q7, q8, q9] at q6; done) | (simp [q6, q8, q9] at q7; done) | (simp [q6, q7, q9] at q8; done) | (simp [q6, q7, q8] at q9; done)) stsub_nil)
            · refine JL_guard rfl rfl q9 ?_
              refine JL_pd rfl (det_move rfl) ?_
              refine JL_guard rfl rfl q9 ?_
              refine JL_pd rfl (det_neq rfl rfl) ?_
              refine JL_pd rfl (det_pick_f rfl q9 rfl) ?_
              refine JL_pd rfl (det_move rfl) ?_
              refine JL_split (d0 := 248) rfl (fun q10 => ?_) (fun q10 => ?_)
              · refine JL_skip rfl rfl q10 rfl ?_
                refine JL_skip rfl rfl q10 rfl ?_
                refine JL_pd rfl (det_pick_t rfl q10 rfl) ?_
                refine JL_pd rfl (det_move rfl) ?_
                refine JL_skip rfl rfl rfl rfl ?_
                refine JL_skip rfl rfl rfl rfl ?_
                refine JL_pd rfl (det_pick_t rfl rfl rfl) ?_
                refine JL_pd rfl (det_move rfl) ?_
                refine JL_skip rfl rfl rfl rfl ?_
                refine JL_skip rfl rfl rfl rfl ?_
                refine JL_pd rfl (det_pick_t rfl rfl rfl) ?_
                refine JL_pd rfl (det_move rfl) ?_
                refine JL_skip rfl rfl rfl rfl ?_
                refine JL_skip rfl rfl rfl rfl ?_
                refine JL_pd rfl (det_pick_t rfl rfl rfl) ?_
                exact hj (by kernel_rfl) (stsub_consB rfl (by clear hj; first | rfl | (simp only [q6, q7, q8, q9, q10, Bool.and_true, Bool.true_and, Bool.false_and, Bool.and_false, Bool.or_true, Bool.true_or, Bool.or_false, Bool.false_or, Bool.not_true, Bool.not_false]; done) | (simp [q6, q7, q8, q9, q10]; done) | (simp at q6; done) | (simp at q7; done) | (simp at q8; done) | (simp at q9; done) | (simp at q10; done) | (simp [q6, q7, q8, q9, q10] <;> omega) | (exfalso; simp at q6 q7 q8 q9 q10; omega) | (simp [q7, q8, q9, q10] at q6; done) | (simp [q6, q8, q9, q10] at q7; done) | (simp [q6, q7, q9, q10] at q8; done) | (simp [q6, q7, q8, q10] at q9; done) | (simp [q6, q7, q8, q9] at q10; done)) stsub_nil)
              · refine JL_guard rfl rfl q10 ?_
                refine JL_pd rfl (det_move rfl) ?_
                refine JL_guard rfl rfl q10 ?_
                refine JL_pd rfl (det_neq rfl rfl) ?_
                refine JL_pd rfl (det_pick_f rfl q10 rfl) ?_
                refine JL_pd rfl (det_move rfl) ?_
                refine JL_split (d0 := 252) rfl (fun q11 => ?_) (fun q11 => ?_)
                · refine JL_skip rfl rfl q11 rfl ?_
                  refine JL_skip rfl rfl q11 rfl ?_
                  refine JL_pd rfl (det_pick_t rfl q11 rfl) ?_
                  refine JL_pd rfl (det_move rfl) ?_
                  refine JL_skip rfl rfl rfl rfl ?_
                  refine JL_skip rfl rfl rfl rfl ?_
                  refine JL_pd rfl (det_pick_t rfl rfl rfl) ?_
                  refine JL_pd rfl (det_move rfl) ?_
                  refine JL_skip rfl rfl rfl rfl ?_
                  refine JL_skip rfl rfl rfl rfl ?_
                  refine JL_pd rfl (det_pick_t rfl rfl rfl) ?_
                  exact hj (by kernel_rfl) (stsub_consB rfl (by clear hj; first | rfl | (simp only [q6, q7, q8, q9, q10, q11, Bool.and_true, Bool.true_and, Bool.false_and, Bool.and_false, Bool.or_true, Bool.true_or, Bool.or_false, Bool.false_or, Bool.not_true, Bool.not_false]; done) | (simp [q6, q7, q8, q9, q10, q11]; done) | (simp at q6; done) | (simp at q7; done) | (simp at q8; done) | (simp at q9; done) | (simp at q10; done) | (simp at q11; done) | (simp [q6, q7, q8, q9, q10, q11] <;> omega) | (exfalso; simp at q6 q7 q8 q9 q10 q11; omega) | (simp [q7, q8, q9, q10, q11] at q6; done) | (simp [q6, q8, q9, q10, q11] at q7; done) | (simp [q6, q7, q9, q10, q11] at q8; done) | (simp [q6, q7, q8, q10, q11] at q9; done) | (simp [q6, q7, q8, q9, q11] at q10; done) | (simp [q6, q7, q8, q9, q10] at q11; done)) stsub_nil)
                · refine JL_guard rfl rfl q11 ?_
                  refine JL_pd rfl (det_move rfl) ?_
                  refine JL_guard rfl rfl q11 ?_
                  refine JL_pd rfl (det_neq rfl rfl) ?_
                  refine JL_pd rfl (det_pick_f rfl q11 rfl) ?_
                  refine JL_pd rfl (det_move rfl) ?_
                  refine JL_split (d0 := 256) rfl (fun q12 => ?_) (fun q12 => ?_)
                  · refine JL_skip rfl rfl q12 rfl ?_
                    refine JL_skip rfl rfl q12 rfl ?_
                    refine JL_pd rfl (det_pick_t rfl q12 rfl) ?_
                    refine JL_pd rfl (det_move rfl) ?_
                    refine JL_skip rfl rfl rfl rfl ?_
                    refine JL_skip rfl rfl rfl rfl ?_
                    refine JL_pd rfl (det_pick_t rfl rfl rfl) ?_
                    exact hj (by kernel_rfl) (stsub_consB rfl (by clear hj; first | rfl | (simp only [q6, q7, q8, q9, q10, q11, q12, Bool.and_true, Bool.true_and, Bool.false_and, Bool.and_false, Bool.or_true, Bool.true_or, Bool.or_false, Bool.false_or, Bool.not_true, Bool.not_false]; done) | (simp [q6, q7, q8, q9, q10, q11, q12]; done) | (simp at q6; done) | (simp at q7; done) | (simp at q8; done) | (simp at q9; done) | (simp at q10; done) | (simp at q11; done) | (simp at q12; done) | (simp [q6, q7, q8, q9, q10, q11, q12] <;> omega) | (exfalso; simp at q6 q7 q8 q9 q10 q11 q12; omega) | (simp [q7, q8, q9, q10, q11, q12] at q6; done) | (simp [q6, q8, q9, q10, q11, q12] at q7; done) | (simp [q6, q7, q9, q10, q11, q12] at q8; done) | (simp [q6, q7, q8, q10, q11, q12] at q9; done) | (simp [q6, q7, q8, q9, q11, q12] at q10; done) | (simp [q6, q7, q8, q9, q10, q12] at q11; done) | (simp [q6, q7, q8, q9, q10, q11] at q12; done)) stsub_nil)
                  · refine JL_guard rfl rfl q12 ?_
                    refine JL_pd rfl (det_move rfl) ?_
                    refine JL_guard rfl rfl q12 ?_
                    refine JL_pd rfl (det_neq rfl rfl) ?_
                    refine JL_pd rfl (det_pick_f rfl q12 rfl) ?_
                    refine JL_pd rfl (det_move rfl) ?_
                    refine JL_split (d0 := 260) rfl (fun q13 => ?_) (fun q13 => ?_)
                    · refine JL_skip rfl rfl q13 rfl ?_
                      refine JL_skip rfl rfl q13 rfl ?_
                      refine JL_pd rfl (det_pick_t rfl q13 rfl) ?_
                      exact hj (by kernel_rfl) (stsub_consB rfl (by clear hj; first | rfl | (simp only [q6, q7, q8, q9, q10, q11, q12, q13, Bool.and_true, Bool.true_and, Bool.false_and, Bool.and_false, Bool.or_true, Bool.true_or, Bool.or_false, Bool.false_or, Bool.not_true, Bool.not_false]; done) | (simp [q6, q7, q8, q9, q10, q11, q12, q13]; done) | (simp at q6; done) | (simp at q7; done) | (simp at q8; done) | (simp at q9; done) | (simp at q10; done) | (simp at q11; done) | (simp at q12; done) | (simp at q13; done) | (simp [q6, q7, q8, q9, q10, q11, q12, q13] <;> omega) | (exfalso; simp at q6 q7 q8 q9 q10 q11 q12 q13; omega) | (simp [q7, q8, q9, q10, q11, q12, q13] at q6; done) | (simp [q6, q8, q9, q10, q11, q12, q13] at q7; done) | (simp [q6, q7, q9, q10, q11, q12, q13] at q8; done) | (simp [q6, q7, q8, q10, q11, q12, q13] at q9; done) | (simp [q6, q7, q8, q9, q11, q12, q13] at q10; done) | (simp [q6, q7, q8, q9, q10, q12, q13] at q11; done) | (simp [q6, q7, q8, q9, q10, q11, q13] at q12; done) | (simp [q6, q7, q8, q9, q10, q11, q12] at q13; done)) stsub_nil)
                    · refine JL_guard rfl rfl q13 ?_
                      refine JL_pd rfl (det_move rfl) ?_
                      refine JL_guard rfl rfl q13 ?_
                      refine JL_pd rfl (det_neq rfl rfl) ?_
                      refine JL_pd rfl (det_pick_f rfl q13 rfl) ?_
                      exact hj (by kernel_rfl) (stsub_consB rfl (by clear hj; first | rfl | (simp only [q6, q7, q8, q9, q10, q11, q12, q13, Bool.and_true, Bool.true_and, Bool.false_and, Bool.and_false, Bool.or_true, Bool.true_or, Bool.or_false, Bool.false_or, Bool.not_true, Bool.not_false]; done) | (simp [q6, q7, q8, q9, q10, q11, q12, q13]; done) | (simp at q6; done) | (simp at q7; done) | (simp at q8; done) | (simp at q9; done) | (simp at q10; done) | (simp at q11; done) | (simp at q12; done) | (simp at q13; done) | (simp [q6, q7, q8, q9, q10, q11, q12, q13] <;> omega) | (exfalso; simp at q6 q7 q8 q9 q10 q11 q12 q13; omega) | (simp [q7, q8, q9, q10, q11, q12, q13] at q6; done) | (simp [q6, q8, q9, q10, q11, q12, q13] at q7; done) | (simp [q6, q7, q9, q10, q11, q12, q13] at q8; done) | (simp [q6, q7, q8, q10, q11, q12, q13] at q9; done) | (simp [q6, q7, q8, q9, q11, q12, q13] at q10; done) | (simp [q6, q7, q8, q9, q10, q12, q13] at q11; done) | (simp [q6, q7, q8, q9, q10, q11, q13] at q12; done) | (simp [q6, q7, q8, q9, q10, q11, q12] at q13; done)) stsub_nil)
    refine JL_nil ?_
    refine JE_seq ?_
    refine JC_condF rfl rfl ?_
    refine JC_skip ?_
    refine JE_seq ?_
    refine JC_seq ?_
    refine JC_region ?_
    refine JL_pd rfl (det_move rfl) ?_
    refine JL_pd rfl (det_move rfl) ?_
    -- stop: op  2 t266 := (call (Call (value f39) (t264 t265) (30 30)))   <0 1>   180
    refine JL_step rfl rfl rfl (jo_callv rfl rfl Try.call39 rfl (levery_j (rowL l s q) (rowL (widL l k hw) s q) ra rb rc rd (by omega) (by omega))) fun _ => ?_
    refine JL_pd rfl (det_move rfl) ?_
    -- stop: guard 3
    refine JL_is (d0 := 267) true rfl (by exact hE1) (fun f1 => ?_)
    refine JL_guard rfl rfl f1 ?_
    refine JL_pd rfl (det_fieldAddr rfl fo_49_0) ?_
    refine JL_guard rfl rfl f1 ?_
    refine JL_dt rfl (det_loadK rfl Try.isAgg3 rfl) ?_
    refine JL_guard rfl rfl f1 ?_
    refine JL_pd rfl (det_fieldAddr rfl fo_49_0) ?_
    refine JL_guard rfl rfl f1 ?_
    refine JL_dt rfl (det_loadK rfl Try.isAgg3 rfl) ?_
    refine JL_guard rfl rfl f1 ?_
    refine JL_pd rfl (det_leq rfl rfl) ?_
    refine JL_pd rfl (det_pick_t rfl f1 rfl) ?_
    refine JL_pd rfl (det_move rfl) ?_
    -- stop: guard 10
    refine JL_is (d0 := 274) true rfl (by exact decide_eq_true hE2.1) (fun f2 => ?_)
    refine JL_guard rfl rfl f2 ?_
    refine JL_pd rfl (det_fieldAddr rfl fo_49_1) ?_
    refine JL_guard rfl rfl f2 ?_
    refine JL_dt rfl (det_loadK rfl Try.isAgg3 rfl) ?_
    refine JL_guard rfl rfl f2 ?_
    refine JL_pd rfl (det_fieldAddr rfl fo_49_1) ?_
    refine JL_guard rfl rfl f2 ?_
    refine JL_dt rfl (det_loadK rfl Try.isAgg3 rfl) ?_
    refine JL_guard rfl rfl f2 ?_
    refine JL_pd rfl (det_geq rfl rfl) ?_
    refine JL_pd rfl (det_pick_t rfl f2 rfl) ?_
    refine JL_pd rfl (det_move rfl) ?_
    -- stop: guard 17
    refine JL_is (d0 := 281) true rfl (by exact decide_eq_true hE2.2) (fun f3 => ?_)
    refine JL_guard rfl rfl f3 ?_
    refine JL_pd rfl (det_move rfl) ?_
    refine JL_guard rfl rfl f3 ?_
    refine JL_pd rfl (det_move rfl) ?_
    refine JL_guard rfl rfl f3 ?_
    -- stop: op 20 t284 := (call (Call (value f39) (t282 t283) (30 30)))   <18 19 17 17>   180
    refine JL_step rfl rfl rfl (jo_callv rfl rfl Try.call39 rfl (levery_j (aimsL (widL l k hw) p) (aimsL l p) na ma nc mc (by omega) (by omega))) fun _ => ?_
    refine JL_pd rfl (det_pick_t rfl f3 rfl) ?_
    refine JL_pd rfl (det_move rfl) ?_
    -- stop: guard 22
    refine JL_is (d0 := 286) true rfl (by exact hE3) (fun f4 => ?_)
    refine JL_guard rfl rfl f4 ?_
    refine JL_pd rfl (det_move rfl) ?_
    refine JL_guard rfl rfl f4 ?_
    refine JL_pd rfl (det_move rfl) ?_
    refine JL_guard rfl rfl f4 ?_
    -- stop: op 25 t289 := (call (Call (value f39) (t287 t288) (30 30)))   <23 24 22 22>   180
    refine JL_step rfl rfl rfl (jo_callv rfl rfl Try.call39 rfl (levery_j (aimsL l p) (aimsL l (widP p by_)) ma wa mc wc (by omega) (by omega))) fun _ => ?_
    refine JL_pd rfl (det_pick_t rfl f4 rfl) ?_
    refine JL_pd rfl (det_move rfl) ?_
    -- stop: guard 27
    refine JL_is (d0 := 291) true rfl (by exact hE4) (fun f5 => ?_)
    refine JL_guard rfl rfl f5 ?_
    refine JL_pd rfl (det_move rfl) ?_
    refine JL_guard rfl rfl f5 ?_
    refine JL_pd rfl (det_move rfl) ?_
    refine JL_guard rfl rfl f5 ?_
    refine JL_pd rfl (det_geq rfl rfl) ?_
    refine JL_pd rfl (det_pick_t rfl f5 rfl) ?_
    refine JL_pd rfl (det_move rfl) ?_
    -- stop: guard 32
    refine JL_is (d0 := 296) true rfl (by exact decide_eq_true hE5) (fun f6 => ?_)
    refine JL_guard rfl rfl f6 ?_
    refine JL_step rfl rfl rfl (jo_callv rfl rfl Try.call17 rfl (lawake_j)) fun _ => ?_
    refine JL_pd rfl (det_pick_t rfl f6 rfl) ?_
    refine JL_pd rfl (det_assign rfl) ?_
    refine JL_nil ?_
    refine JE_seq ?_
    refine JC_ret ?_
    -- stop: out
    refine JE_out (.inl rfl) () (results1 Try.results8 (res_tmp rfl)) rfl (List.Perm.refl _) (fun _ _ => trivial)
end Go.Proofs.Ytcfhbnfincpehaa

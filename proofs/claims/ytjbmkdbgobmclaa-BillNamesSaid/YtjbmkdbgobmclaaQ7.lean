/- Own texts, laid together: B11 B12 B13 B14 B15. Nothing is asked. -/
import Derived.Test.YtjbmkdbgobmclaaQ6
import Derived.Shelf.SlSortCmp.NoneTotal
set_option linter.unusedSimpArgs false
set_option linter.unusedVariables false
/- Bill, plain: tills, and the gaps between their messages. -/
namespace Go.Proofs.Ytjbmkdbgobmclaa
open Go.RowKit Go.Shelf

structure Gp where
  fr : Int
  to_ : Int
  co : Int
deriving DecidableEq, Inhabited
def gapOf (last m : Ms) : Gp := ⟨last.no + 1, m.no - 1, m.total - m.coins - last.total⟩
def gapsF : Ms → List Ms → List (Gp × Ms)
  | _, [] => []
  | last, m :: ts => (gapOf last m, m) :: gapsF m ts
abbrev zM : Ms := ⟨0, 0, 0⟩
def gapsL (ts : List Ms) : List (Gp × Ms) := gapsF zM ts
theorem gapsF_len : ∀ (ts : List Ms) (l : Ms), (gapsF l ts).length = ts.length
  | [], _ => rfl
  | m :: ts, _ => by unfold gapsF; rw [List.length_cons, gapsF_len ts, List.length_cons]
theorem gapsF_get : ∀ (ts : List Ms) (l : Ms) (i : Nat) (h : i < ts.length), (gapsF l ts)[i]'(by rw [gapsF_len]; exact h) = (gapOf (if h0 : i = 0 then l else ts[i - 1]'(by omega)) ts[i], ts[i])
  | m :: ts, l, 0, _ => rfl
  | m :: ts, l, i + 1, h => by
    have h' : i < ts.length := by simpa using h
    show (gapsF m ts)[i]'_ = _
    rw [gapsF_get ts m i h']
    cases i with
    | zero => rfl
    | succ i => rfl
def manyG (g : Gp) : Int := g.to_ - g.fr + 1
def canG (g : Gp) : Bool := inI g.co (manyG g) (manyG g * 1000)
def okG (g : Gp) : Bool := decide (0 ≤ manyG g) && canG g
def fitB (ts : List Ms) : Bool := (gapsL ts).all fun z => okG z.1
def littleG (g : Gp) (some : Int) : Int := max some (g.co - (manyG g - some) * 1000)
def muchG (g : Gp) (some : Int) : Int := min (some * 1000) (g.co - (manyG g - some))
theorem okG_iff {g : Gp} : okG g = true ↔ 0 ≤ manyG g ∧ manyG g ≤ g.co ∧ g.co ≤ manyG g * 1000 := by
  unfold okG canG
  rw [Bool.and_eq_true, decide_eq_true_eq, inI_iff]
/-- Each message once. -/
def ddL (l : List Ms) : List Ms := l.foldl (fun t m => if m ∈ t then t else t ++ [m]) []
theorem dd_go : ∀ (l t : List Ms), t.Nodup → (l.foldl (fun t m => if m ∈ t then t else t ++ [m]) t).Nodup ∧ ∀ m, m ∈ l.foldl (fun t m => if m ∈ t then t else t ++ [m]) t ↔ m ∈ t ∨ m ∈ l
  | [], t, h => ⟨h, by simp⟩
  | x :: l, t, h => by
    rw [List.foldl_cons]
    by_cases hx : x ∈ t
    · rw [if_pos hx]
      obtain ⟨h1, h2⟩ := dd_go l t h
      refine ⟨h1, fun m => ?_⟩
      rw [h2, List.mem_cons]
      constructor
      · rintro (h | h)
        · exact .inl h
        · exact .inr (.inr h)
      · rintro (h | rfl | h)
        · exact .inl h
        · exact .inl hx
        · exact .inr h
    · rw [if_neg hx]
      obtain ⟨h1, h2⟩ := dd_go l (t ++ [x]) (by
        rw [List.nodup_append]
        exact ⟨h, by simp, fun a ha b hb => by rw [List.mem_singleton.1 hb]; intro e; exact hx (e ▸ ha)⟩)
      refine ⟨h1, fun m => ?_⟩
      rw [h2, List.mem_append, List.mem_singleton, List.mem_cons, or_assoc]
theorem dd_mem {l : List Ms} {m : Ms} : m ∈ ddL l ↔ m ∈ l := by
  have := (dd_go l [] List.nodup_nil).2 m
  simpa [ddL] using this
theorem dd_nodup (l : List Ms) : (ddL l).Nodup := (dd_go l [] List.nodup_nil).1
def leM (a b : Ms) : Bool := decide (a.no ≤ b.no)
def srtL (l : List Ms) : List Ms := (ddL l).mergeSort leM
theorem srt_perm (l : List Ms) : (srtL l).Perm (ddL l) := List.mergeSort_perm _ _
theorem srt_up (l : List Ms) : (srtL l).Pairwise fun a b => a.no ≤ b.no := by
  have := List.pairwise_mergeSort (le := leM) (fun a b c h1 h2 => by unfold leM at *; simp at *; omega) (fun a b => by unfold leM; simp; omega) (ddL l)
  exact this.imp fun h => of_decide_eq_true h
theorem fit_up : ∀ (ts : List Ms) (last : Ms), ((gapsF last ts).all fun z => okG z.1) = true → ts.Pairwise (fun a b => a.no < b.no) ∧ ∀ m ∈ ts, last.no < m.no
  | [], _, _ => ⟨.nil, by simp⟩
  | m :: ts, last, h => by
    unfold gapsF at h
    rw [List.all_cons, Bool.and_eq_true] at h
    obtain ⟨h1, h2⟩ := h
    obtain ⟨h3, h4⟩ := fit_up ts m h2
    have h5 := (okG_iff.1 h1).1
    have h6 : last.no < m.no := by unfold manyG gapOf at h5; simp only at h5; omega
    refine ⟨List.pairwise_cons.2 ⟨h4, h3⟩, fun x hx => ?_⟩
    rcases List.mem_cons.1 hx with rfl | hx
    · exact h6
    · have := h4 x hx; omega
theorem up_unique {ts us : List Ms} (h1 : ts.Pairwise fun a b => a.no < b.no) (h2 : us.Pairwise fun a b => a.no ≤ b.no) (hp : us.Perm ts) : us = ts := by
  refine List.Perm.eq_of_pairwise (le := fun a b : Ms => a.no ≤ b.no) (fun a b ha hb hab hba => ?_) h2 (h1.imp fun h => by omega) hp
  have ha' : a ∈ ts := hp.mem_iff.1 ha
  obtain ⟨i, hi, rfl⟩ := List.mem_iff_getElem.1 ha'
  obtain ⟨j, hj, rfl⟩ := List.mem_iff_getElem.1 hb
  rw [List.pairwise_iff_getElem] at h1
  rcases Nat.lt_trichotomy i j with h | h | h
  · have := h1 i j hi hj h; omega
  · subst h; rfl
  · have := h1 j i hj hi h; omega
theorem fit_same {ts us : List Ms} (h1 : ts.Pairwise fun a b => a.no ≤ b.no) (h2 : us.Pairwise fun a b => a.no ≤ b.no) (hp : us.Perm ts) : fitB us = fitB ts ∧ (fitB ts = true → us = ts) := by
  by_cases h : fitB ts = true
  · have := up_unique (fit_up ts zM h).1 h2 hp
    exact ⟨by rw [this], fun _ => this⟩
  · refine ⟨?_, fun h' => absurd h' h⟩
    by_cases h' : fitB us = true
    · have := up_unique (fit_up us zM h').1 h1 hp.symm
      rw [this]
    · rw [Bool.not_eq_true] at h h'
      rw [h, h']
/-- The error of messages. -/
def readE (l : List Ms) : Int := if 30 < l.length then 3 else if l.all msOk = false then 1 else if fitB (srtL l) = false then 9 else 0
theorem read_of {l : List Ms} (h : readE l = 0) : l.length ≤ 30 ∧ (∀ m ∈ l, VMs m) ∧ fitB (srtL l) = true := by
  unfold readE at h
  split at h
  · omega
  · split at h
    · omega
    · split at h
      · omega
      · rename_i h1 h2 h3
        exact ⟨by omega, fun m hm => msOk_iff.1 (List.all_eq_true.1 (by simpa using h2) m hm), by simpa using h3⟩
theorem dd_len (l : List Ms) : (ddL l).length ≤ l.length := by
  unfold ddL
  have : ∀ (l t : List Ms), (l.foldl (fun t m => if m ∈ t then t else t ++ [m]) t).length ≤ t.length + l.length := by
    intro l
    induction l with
    | nil => intro t; simp
    | cons x l ih =>
      intro t
      rw [List.foldl_cons, List.length_cons]
      split
      · have := ih t; omega
      · have := ih (t ++ [x]); rw [List.length_append, List.length_singleton] at this; omega
  simpa using this l []
theorem srt_len (l : List Ms) : (srtL l).length ≤ l.length := by rw [(srt_perm l).length_eq]; exact dd_len l
theorem srt_mem {l : List Ms} {m : Ms} : m ∈ srtL l ↔ m ∈ l := by rw [(srt_perm l).mem_iff, dd_mem]
end Go.Proofs.Ytjbmkdbgobmclaa

/- Walks of bill: messages, gaps. -/
namespace Go.Proofs.Ytjbmkdbgobmclaa
open Go.RowKit Go.Shelf

set_option maxRecDepth 100000 in
theorem min_j (b : Nat) (x y : Int) : Cv Try.prog 102 [.slice (some ⟨b, 0, none⟩) 2 2] (KSl (some ⟨b, 0, none⟩) 2 2 encI [x, y]) (I (min x y)) := by
  refine Cx_of Try.func102 rfl Try.ntmps102 rfl fun w0 M0 => ?_
  refine JC_seq ?_
  refine JC_region ?_
  refine JL_pd rfl (det_assign rfl) ?_
  refine JL_nil ?_
  refine JE_seq ?_
  refine JC_seq ?_
  refine JC_seq ?_
  refine JC_region ?_
  refine JL_pd rfl (det_move rfl) ?_
  refine JL_pd rfl (det_len rfl Try.runUnderlying22) ?_
  refine JL_pd rfl (det_lss rfl rfl) ?_
  refine JL_nil ?_
  refine JE_seq ?_
  -- stop: cond
  refine JC_if rfl (fun h0 => ?_) (fun h0 => ?_)
  · exact absurd h0 (by decide)
  refine JC_skip ?_
  refine JE_seq ?_
  refine JC_seq ?_
  refine JC_region ?_
  refine JL_pd rfl (det_move rfl) ?_
  refine JL_dt rfl (det_indexAddr (i := 0) rfl rfl rfl (by decide) Try.runUnderlying22 Try.sizeOf3) ?_
  refine JL_dt rfl (det_loadE (n := 2) (i := 0) (xs := [x, y]) rfl (by decide) Try.isAgg3 rfl rfl) ?_
  refine JL_pd rfl (det_assign rfl) ?_
  refine JL_nil ?_
  refine JE_seq ?_
  refine JC_seq ?_
  refine JC_seq ?_
  refine JC_region ?_
  refine JL_pd rfl (det_assign rfl) ?_
  refine JL_nil ?_
  refine JE_seq ?_
  refine JC_block ?_
  -- stop: loop
  refine JC_loopF (γ := Nat) (fun i => i = 1 ∨ i = 2) (fun i => [(4, I i), (3, I (if i = 1 then x else min x y))]) (fun _ => []) (fun i => 2 - i) 1 (.inl rfl) (stsub_consI rfl rfl (stsub_consI rfl rfl stsub_nil)) ht_nil ?_
  intro i hi K hK
  dsimp only [List.cons_append, List.nil_append]
  refine JC_seq ?_
  refine JC_seq ?_
  refine JC_region ?_
  refine JL_pd rfl (det_move rfl) ?_
  refine JL_pd rfl (det_move rfl) ?_
  refine JL_pd rfl (det_len rfl Try.runUnderlying22) ?_
  refine JL_pd rfl (det_lss rfl rfl) ?_
  refine JL_nil ?_
  refine JE_seq ?_
  -- stop: cond
  refine JC_if rfl (fun h1 => ?_) (fun h1 => ?_)
  · obtain rfl : i = 1 := by omega
    rw [if_pos rfl]
    refine JC_skip ?_
    refine JE_seq ?_
    refine JC_seq ?_
    refine JC_block ?_
    refine JC_region ?_
    refine JL_pd rfl (det_move rfl) ?_
    refine JL_pd rfl (det_move rfl) ?_
    refine JL_pd rfl (det_move rfl) ?_
    refine JL_dt rfl (det_indexAddr rfl rfl (by first | rfl | omega) (by first | assumption | omega | decide) Try.runUnderlying22 Try.sizeOf3) ?_
    refine JL_dt rfl (det_loadE (n := 2) (i := 1) (xs := [x, y]) rfl (by decide) Try.isAgg3 rfl rfl) ?_
    refine JL_pd rfl (det_min rfl rfl) ?_
    refine JL_pd rfl (det_assign rfl) ?_
    refine JL_nil ?_
    refine JE_block ?_
    refine JE_seq ?_
    refine JC_region ?_
    refine JL_pd rfl (det_move rfl) ?_
    refine JL_pd rfl (det_add rfl rfl ⟨by omega, by omega⟩) ?_
    refine JL_pd rfl (det_assign rfl) ?_
    refine JL_nil ?_
    -- stop: end
    refine JE_roundF hK 2 (.inr rfl) (by omega) (stsub_consI rfl (by decide) (stsub_consI rfl rfl stsub_nil)) ht_nil
  · obtain rfl : i = 2 := by omega
    refine JC_exit ?_
    refine JE_seq_exit ?_
    refine JE_then_exit ?_
    refine JE_block_here ?_
    refine JE_seq ?_
    refine JC_seq ?_
    refine JC_region ?_
    refine JL_pd rfl (det_move rfl) ?_
    refine JL_pd rfl (det_assign rfl) ?_
    refine JL_nil ?_
    refine JE_seq ?_
    refine JC_ret ?_
    -- stop: out
    refine JE_out (.inl rfl) () (results1 Try.results102 (res_tmp rfl)) (by rw [if_neg (by decide)]) (List.Perm.refl _) (fun _ _ => trivial)
theorem least_j (b : Nat) (x y : Int) : Cv Try.prog 88 [.slice (some ⟨b, 0, none⟩) 2 2] (KSl (some ⟨b, 0, none⟩) 2 2 encI [x, y]) (I (min x y)) := by
  refine Cx_of Try.func88 rfl Try.ntmps88 rfl fun w0 M0 => ?_
  refine JC_seq ?_
  refine JC_region ?_
  refine JL_pd rfl (det_assign rfl) ?_
  refine JL_nil ?_
  refine JE_seq ?_
  refine JC_seq ?_
  refine JC_region ?_
  refine JL_pd rfl (det_move rfl) ?_
  refine JL_step rfl rfl rfl (jo_callv rfl rfl Try.call102 rfl (min_j b x y)) fun _ => ?_
  refine JL_pd rfl (det_assign rfl) ?_
  refine JL_nil ?_
  refine JE_seq ?_
  refine JC_ret ?_
  -- stop: out
  refine JE_out (.inl rfl) () (results1 Try.results88 (res_tmp rfl)) rfl (List.Perm.refl _) (fun _ _ => trivial)
theorem least_x (b : Nat) (x y : Int) : Cx Try.prog 88 [.slice (some ⟨b, 0, none⟩) 2 2] [bx b [I x, I y]] KTrue (fun _ : Unit => I (min x y)) (fun _ => [bx b [I x, I y]]) (fun _ => KTrue) :=
  Cx.lend (bx b [I x, I y]) ((least_j b x y).mono (fun w hw => KSl_of_box2 (xs := [x, y]) rfl rfl (by decide) hw.1) fun _ _ h => h)
theorem msvalid_j (m : Ms) : Cv Try.prog 79 [.agg #[I m.no, I m.coins, I m.total]] KTrue (.bool (msOk m)) := by
  refine Cx_of Try.func79 rfl Try.ntmps79 rfl fun w0 M0 => ?_
  refine JC_seq ?_
  refine JC_region ?_
  refine JL_step rfl rfl rfl (jo_box rfl rfl) fun b1 => ?_
  refine JL_pd rfl (det_assign rfl) ?_
  refine JL_nil ?_
  refine JE_seq ?_
  refine JC_seq ?_
  refine JC_region ?_
  refine JL_pd rfl (det_fieldAddr rfl fo_94_0) ?_
  refine JL_dt rfl (det_loadK rfl Try.isAgg3 rfl) ?_
  refine JL_step rfl rfl rfl (jo_callv rfl rfl Try.call56 rfl (within_j _ _ _)) fun _ => ?_
  refine JL_pd rfl (det_move rfl) ?_
  -- stop: guard 3
  refine JL_join1 10 2 (.bool (msOk m)) (fun hj => ?_) ?_
  · refine JL_split (d0 := 6) rfl (fun q1 => ?_) (fun q1 => ?_)
    · refine JL_guard rfl rfl q1 ?_
      refine JL_pd rfl (det_fieldAddr rfl fo_94_1) ?_
      refine JL_guard rfl rfl q1 ?_
      refine JL_dt rfl (det_loadK rfl Try.isAgg3 rfl) ?_
      refine JL_guard rfl rfl q1 ?_
      refine JL_step rfl rfl rfl (jo_callv rfl rfl Try.call56 rfl (within_j _ _ _)) fun _ => ?_
      refine JL_pd rfl (det_pick_t rfl q1 rfl) ?_
      refine JL_pd rfl (det_move rfl) ?_
      refine JL_split (d0 := 11) rfl (fun q2 => ?_) (fun q2 => ?_)
      · refine JL_guard rfl rfl q2 ?_
        refine JL_pd rfl (det_fieldAddr rfl fo_94_2) ?_
        refine JL_guard rfl rfl q2 ?_
        refine JL_dt rfl (det_loadK rfl Try.isAgg3 rfl) ?_
        refine JL_guard rfl rfl q2 ?_
        refine JL_step rfl rfl rfl (jo_callv rfl rfl Try.call56 rfl (within_j _ _ _)) fun _ => ?_
        refine JL_pd rfl (det_pick_t rfl q2 rfl) ?_
        refine JL_pd rfl (det_assign rfl) ?_
        exact hj (by kernel_rfl) (stsub_consB rfl (by clear hj; first | rfl | (simp only [msOk, q1, q2, Bool.and_true, Bool.true_and, Bool.false_and, Bool.and_false, Bool.or_true, Bool.true_or, Bool.or_false, Bool.false_or, Bool.not_true, Bool.not_false]; done) | (simp [msOk, q1, q2]; done) | (simp [msOk] at q1; done) | (simp [msOk] at q2; done) | (simp [msOk, q1, q2] <;> omega) | (exfalso; simp [msOk] at q1 q2; omega) | (simp [q2, msOk] at q1; done) | (simp [q1, msOk] at q2; done)) stsub_nil)
      · refine JL_skip rfl rfl q2 rfl ?_
        refine JL_skip rfl rfl q2 rfl ?_
        refine JL_skip rfl rfl q2 rfl ?_
        refine JL_pd rfl (det_pick_f rfl q2 rfl) ?_
        refine JL_pd rfl (det_assign rfl) ?_
        exact hj (by kernel_rfl) (stsub_consB rfl (by clear hj; first | rfl | (simp only [msOk, q1, q2, Bool.and_true, Bool.true_and, Bool.false_and, Bool.and_false, Bool.or_true, Bool.true_or, Bool.or_false, Bool.false_or, Bool.not_true, Bool.not_false]; done) | (simp [msOk, q1, q2]; done) | (simp [msOk] at q1; done) | (simp [msOk] at q2; done) | (simp [msOk, q1, q2] <;> omega) | (exfalso; simp [msOk] at q1 q2; omega) | (simp [q2, msOk] at q1; done) | (simp [q1, msOk] at q2; done)) stsub_nil)
    · refine JL_skip rfl rfl q1 rfl ?_
      refine JL_skip rfl rfl q1 rfl ?_
      refine JL_skip rfl rfl q1 rfl ?_
      refine JL_pd rfl (det_pick_f rfl q1 rfl) ?_
      refine JL_pd rfl (det_move rfl) ?_
      refine JL_skip rfl rfl rfl rfl ?_
      refine JL_skip rfl rfl rfl rfl ?_
      refine JL_skip rfl rfl rfl rfl ?_
      refine JL_pd rfl (det_pick_f rfl rfl rfl) ?_
      refine JL_pd rfl (det_assign rfl) ?_
      exact hj (by kernel_rfl) (stsub_consB rfl (by clear hj; first | rfl | (simp only [msOk, q1, Bool.and_true, Bool.true_and, Bool.false_and, Bool.and_false, Bool.or_true, Bool.true_or, Bool.or_false, Bool.false_or, Bool.not_true, Bool.not_false]; done) | (simp [msOk, q1]; done) | (simp [msOk] at q1; done) | (simp [msOk, q1] <;> omega) | (exfalso; simp [msOk] at q1; omega)) stsub_nil)
  refine JL_nil ?_
  refine JE_seq ?_
  refine JC_ret ?_
  -- stop: out
  refine JE_out (.inl rfl) () (results1 Try.results79 (res_tmp rfl)) rfl (List.Perm.refl _) (fun _ _ => trivial)
theorem ahead_j (m : Ms) (h : VMs m) : Cv Try.prog 87 [.agg #[I m.no, I m.coins, I m.total]] KTrue (I (m.total - m.coins)) := by
  have := h.c0; have := h.c1; have := h.t0; have := h.t1
  refine Cx_of Try.func87 rfl Try.ntmps87 rfl fun w0 M0 => ?_
  refine JC_seq ?_
  refine JC_region ?_
  refine JL_step rfl rfl rfl (jo_box rfl rfl) fun b1 => ?_
  refine JL_pd rfl (det_assign rfl) ?_
  refine JL_nil ?_
  refine JE_seq ?_
  refine JC_seq ?_
  refine JC_region ?_
  refine JL_pd rfl (det_fieldAddr rfl fo_94_2) ?_
  refine JL_dt rfl (det_loadK rfl Try.isAgg3 rfl) ?_
  refine JL_pd rfl (det_fieldAddr rfl fo_94_1) ?_
  refine JL_dt rfl (det_loadK rfl Try.isAgg3 rfl) ?_
  refine JL_pd rfl (det_sub rfl rfl ⟨by omega, by omega⟩) ?_
  refine JL_pd rfl (det_assign rfl) ?_
  refine JL_nil ?_
  refine JE_seq ?_
  refine JC_ret ?_
  -- stop: out
  refine JE_out (.inl rfl) () (results1 Try.results87 (res_tmp rfl)) rfl (List.Perm.refl _) (fun _ _ => trivial)
def gapBd (g : Gp) : Prop := -1000 ≤ g.fr ∧ g.fr ≤ 1000 ∧ -1000 ≤ g.to_ ∧ g.to_ ≤ 1000 ∧ -1000000 ≤ g.co ∧ g.co ≤ 1000000
theorem gap_bd {l m : Ms} (hl : l = zM ∨ VMs l) (hm : VMs m) : gapBd (gapOf l m) := by
  have := hm.n0; have := hm.n1; have := hm.c0; have := hm.c1; have := hm.t0; have := hm.t1
  have h2 : 0 ≤ l.no ∧ l.no ≤ 60 ∧ 0 ≤ l.total ∧ l.total ≤ 60000 := by
    rcases hl with rfl | h
    · decide
    · have := h.n0; have := h.n1; have := h.t0; have := h.t1; omega
  unfold gapBd gapOf
  simp only
  omega
theorem many_j (g : Gp) (h : gapBd g) : Cv Try.prog 84 [.agg #[I g.fr, I g.to_, I g.co]] KTrue (I (manyG g)) := by
  obtain ⟨h1, h2, h3, h4, h5, h6⟩ := h
  refine Cx_of Try.func84 rfl Try.ntmps84 rfl fun w0 M0 => ?_
  refine JC_seq ?_
  refine JC_region ?_
  refine JL_step rfl rfl rfl (jo_box rfl rfl) fun b1 => ?_
  refine JL_pd rfl (det_assign rfl) ?_
  refine JL_nil ?_
  refine JE_seq ?_
  refine JC_seq ?_
  refine JC_region ?_
  refine JL_pd rfl (det_fieldAddr rfl fo_108_1) ?_
  refine JL_dt rfl (det_loadK rfl Try.isAgg3 rfl) ?_
  refine JL_pd rfl (det_fieldAddr rfl fo_108_0) ?_
  refine JL_dt rfl (det_loadK rfl Try.isAgg3 rfl) ?_
  refine JL_pd rfl (det_sub rfl rfl ⟨by omega, by omega⟩) ?_
  refine JL_pd rfl (det_add rfl rfl ⟨by omega, by omega⟩) ?_
  refine JL_pd rfl (det_assign rfl) ?_
  refine JL_nil ?_
  refine JE_seq ?_
  refine JC_ret ?_
  -- stop: out
  refine JE_out (.inl rfl) () (results1 Try.results84 (res_tmp rfl)) rfl (List.Perm.refl _) (fun _ _ => trivial)
theorem can_j (g : Gp) (h : gapBd g) : Cv Try.prog 85 [.agg #[I g.fr, I g.to_, I g.co]] KTrue (.bool (canG g)) := by
  have hm := many_j g h
  have hb : -3000 ≤ manyG g ∧ manyG g ≤ 3000 := by unfold gapBd at h; unfold manyG; omega
  obtain ⟨h1, h2, h3, h4, h5, h6⟩ := h
  refine Cx_of Try.func85 rfl Try.ntmps85 rfl fun w0 M0 => ?_
  refine JC_seq ?_
  refine JC_region ?_
  refine JL_step rfl rfl rfl (jo_box rfl rfl) fun b1 => ?_
  refine JL_pd rfl (det_assign rfl) ?_
  refine JL_nil ?_
  refine JE_seq ?_
  refine JC_seq ?_
  refine JC_draw [] (by kernel_rfl) ?_
  refine JA_pd (i := 0) rfl (by kernel_rfl) rfl rfl (det_fieldAddr rfl fo_108_2) ?_
  refine JA_dt (i := 1) rfl (by kernel_rfl) (by kernel_rfl) rfl rfl (det_loadK rfl Try.isAgg3 rfl) ?_
  refine JA_dt (i := 2) rfl (by kernel_rfl) (by kernel_rfl) rfl rfl (det_loadKA rfl Try.isAgg108 Try.sizeOf108 rfl rfl) ?_
  refine JA_dt (i := 4) rfl (by kernel_rfl) (by kernel_rfl) rfl rfl (det_loadKA rfl Try.isAgg108 Try.sizeOf108 rfl rfl) ?_
  refine JA_one (i := 3) (by kernel_rfl) rfl rfl (jo_callv rfl rfl Try.call84 rfl (hm)) (fun _ => ⟨hsub_refl, fun _ h => h⟩) fun _ => ?_
  refine JA_one (i := 5) (by kernel_rfl) rfl rfl (jo_callv rfl rfl Try.call84 rfl (hm)) (fun _ => ⟨hsub_refl, fun _ h => h⟩) fun _ => ?_
  refine JA_pd (i := 6) rfl (by kernel_rfl) rfl rfl (det_mul rfl rfl ⟨by omega, by omega⟩) ?_
  refine JA_one (i := 7) (by kernel_rfl) rfl rfl (jo_callv rfl rfl Try.call56 rfl (within_j _ _ _)) (fun _ => ⟨hsub_refl, fun _ h => h⟩) fun _ => ?_
  refine JA_pd (i := 8) rfl (by kernel_rfl) rfl rfl (det_assign rfl) ?_
  refine JA_done (by kernel_rfl) ?_
  refine JE_seq ?_
  refine JC_ret ?_
  -- stop: out
  refine JE_out (.inl rfl) () (results1 Try.results85 (res_tmp rfl)) rfl (List.Perm.refl _) (fun _ _ => trivial)
theorem little_j (g : Gp) (some : Int) (h : gapBd g) (hs : -10000 ≤ some ∧ some ≤ 10000) : Cv Try.prog 62 [.agg #[I g.fr, I g.to_, I g.co], I some] KTrue (I (littleG g some)) := by
  have hm := many_j g h
  have hb : -3000 ≤ manyG g ∧ manyG g ≤ 3000 := by unfold gapBd at h; unfold manyG; omega
  obtain ⟨h1, h2, h3, h4, h5, h6⟩ := h
  refine Cx_of Try.func62 rfl Try.ntmps62 rfl fun w0 M0 => ?_
  refine JC_seq ?_
  refine JC_region ?_
  refine JL_step rfl rfl rfl (jo_box rfl rfl) fun b2 => ?_
  refine JL_pd rfl (det_assign rfl) ?_
  refine JL_nil ?_
  refine JE_seq ?_
  refine JC_seq ?_
  refine JC_draw [] (by kernel_rfl) ?_
  refine JA_pd (i := 0) rfl (by kernel_rfl) rfl rfl (det_move rfl) ?_
  refine JA_pd (i := 1) rfl (by kernel_rfl) rfl rfl (det_fieldAddr rfl fo_108_2) ?_
  refine JA_dt (i := 2) rfl (by kernel_rfl) (by kernel_rfl) rfl rfl (det_loadK rfl Try.isAgg3 rfl) ?_
  refine JA_dt (i := 3) rfl (by kernel_rfl) (by kernel_rfl) rfl rfl (det_loadKA rfl Try.isAgg108 Try.sizeOf108 rfl rfl) ?_
  refine JA_pd (i := 5) rfl (by kernel_rfl) rfl rfl (det_move rfl) ?_
  refine JA_one (i := 4) (by kernel_rfl) rfl rfl (jo_callv rfl rfl Try.call84 rfl (hm)) (fun _ => ⟨hsub_refl, fun _ h => h⟩) fun _ => ?_
  refine JA_pd (i := 6) rfl (by kernel_rfl) rfl rfl (det_sub rfl rfl ⟨by omega, by omega⟩) ?_
  refine JA_pd (i := 7) rfl (by kernel_rfl) rfl rfl (det_mul rfl rfl ⟨by omega, by omega⟩) ?_
  refine JA_pd (i := 8) rfl (by kernel_rfl) rfl rfl (det_sub rfl rfl ⟨by omega, by omega⟩) ?_
  refine JA_pd (i := 9) rfl (by kernel_rfl) rfl rfl (det_max rfl rfl) ?_
  refine JA_pd (i := 10) rfl (by kernel_rfl) rfl rfl (det_assign rfl) ?_
  refine JA_done (by kernel_rfl) ?_
  refine JE_seq ?_
  refine JC_ret ?_
  -- stop: out
  refine JE_out (.inl rfl) () (results1 Try.results62 (res_tmp rfl)) rfl (List.Perm.refl _) (fun _ _ => trivial)
theorem least_v (b : Nat) (x y : Int) : Cv Try.prog 88 [.slice (some ⟨b, 0, none⟩) 2 2] (KSl (some ⟨b, 0, none⟩) 2 2 encI [x, y]) (I (min x y)) := least_j b x y
theorem much_j (g : Gp) (some : Int) (h : gapBd g) (hs : -10000 ≤ some ∧ some ≤ 10000) : Cv Try.prog 63 [.agg #[I g.fr, I g.to_, I g.co], I some] KTrue (I (muchG g some)) := by
  have hm := many_j g h
  have hb : -3000 ≤ manyG g ∧ manyG g ≤ 3000 := by unfold gapBd at h; unfold manyG; omega
  obtain ⟨h1, h2, h3, h4, h5, h6⟩ := h
  have hlv := fun b14 : Nat => least_v b14 (some * 1000) (g.co - (manyG g - some))
  refine Cx_of Try.func63 rfl Try.ntmps63 rfl fun w0 M0 => ?_
  refine JC_seq ?_
  refine JC_region ?_
  refine JL_step rfl rfl rfl (jo_box rfl rfl) fun b2 => ?_
  refine JL_pd rfl (det_assign rfl) ?_
  refine JL_nil ?_
  refine JE_seq ?_
  refine JC_seq ?_
  refine JC_draw [] (by kernel_rfl) ?_
  refine JA_pd (i := 0) rfl (by kernel_rfl) rfl rfl (det_move rfl) ?_
  refine JA_pd (i := 1) rfl (by kernel_rfl) rfl rfl (det_mul rfl rfl ⟨by omega, by omega⟩) ?_
  refine JA_pd (i := 2) rfl (by kernel_rfl) rfl rfl (det_fieldAddr rfl fo_108_2) ?_
  refine JA_dt (i := 3) rfl (by kernel_rfl) (by kernel_rfl) rfl rfl (det_loadK rfl Try.isAgg3 rfl) ?_
  refine JA_dt (i := 4) rfl (by kernel_rfl) (by kernel_rfl) rfl rfl (det_loadKA rfl Try.isAgg108 Try.sizeOf108 rfl rfl) ?_
  refine JA_pd (i := 6) rfl (by kernel_rfl) rfl rfl (det_move rfl) ?_
  refine JA_one (i := 5) (by kernel_rfl) rfl rfl (jo_callv rfl rfl Try.call84 rfl (hm)) (fun _ => ⟨hsub_refl, fun _ h => h⟩) fun _ => ?_
  refine JA_pd (i := 7) rfl (by kernel_rfl) rfl rfl (det_sub rfl rfl ⟨by omega, by omega⟩) ?_
  refine JA_pd (i := 8) rfl (by kernel_rfl) rfl rfl (det_sub rfl rfl ⟨by omega, by omega⟩) ?_
  refine JA_one (i := 9) (by kernel_rfl) rfl rfl (jo_buildSlice rfl (bsl_22_2_0_1 _ _)) (fun _ => ⟨hsub_drop 1 rfl, fun _ h => h⟩) fun b14 => ?_
  refine JA_lit (enc := encI) b14 2 [some * 1000, g.co - (manyG g - some)] noFp rfl rfl (by decide) ?_
  refine JA_one (i := 10) (by kernel_rfl) rfl rfl (jo_callv rfl rfl Try.call88 rfl (hlv b14)) (fun _ => ⟨hsub_refl, fun _ h => h⟩) fun _ => ?_
  refine JA_pd (i := 11) rfl (by kernel_rfl) rfl rfl (det_assign rfl) ?_
  refine JA_done (by kernel_rfl) ?_
  refine JE_seq ?_
  refine JC_ret ?_
  -- stop: out
  refine JE_out (.inl rfl) () (results1 Try.results63 (res_tmp rfl)) rfl (List.Perm.refl _) (fun _ _ => trivial)
theorem last_j (a : Option Addr) (c : Nat) (ts : List Ms) (hl : ts.length ≤ 1000) : Cv Try.prog 60 [.slice a ts.length c] (KSl a ts.length c encM ts) (I (if h : 0 < ts.length then ts[ts.length - 1].no else 0)) := by
  refine Cx_of Try.func60 rfl Try.ntmps60 rfl fun w0 M0 => ?_
  refine JC_seq ?_
  refine JC_region ?_
  refine JL_pd rfl (det_assign rfl) ?_
  refine JL_nil ?_
  refine JE_seq ?_
  refine JC_seq ?_
  refine JC_seq ?_
  refine JC_region ?_
  refine JL_pd rfl (det_move rfl) ?_
  refine JL_pd rfl (det_len rfl Try.runUnderlying99) ?_
  refine JL_pd rfl (det_eql rfl rfl) ?_
  refine JL_nil ?_
  refine JE_seq ?_
  -- stop: cond
  refine JC_if rfl (fun h1 => ?_) (fun h1 => ?_)
  · refine JC_seq ?_
    refine JC_region ?_
    refine JL_pd rfl (det_assign rfl) ?_
    refine JL_nil ?_
    refine JE_seq ?_
    refine JC_ret ?_
    refine JE_seq_ret ?_
    -- stop: out
    refine JE_out (.inl rfl) () (results1 Try.results60 (res_tmp rfl)) (by rw [dif_neg (by omega)]) (List.Perm.refl _) (fun _ _ => trivial)
  · refine JC_skip ?_
    refine JE_seq ?_
    refine JC_seq ?_
    refine JC_region ?_
    refine JL_pd rfl (det_move rfl) ?_
    refine JL_pd rfl (det_move rfl) ?_
    refine JL_pd rfl (det_len rfl Try.runUnderlying99) ?_
    refine JL_pd rfl (det_sub rfl rfl ⟨by omega, by omega⟩) ?_
    refine JL_dt rfl (det_indexAddr (i := ts.length - 1) rfl rfl (by omega) (by omega) Try.runUnderlying99 Try.sizeOf94) ?_
    refine JL_pd rfl (det_fieldAddrE rfl fo_94_0) ?_
    refine JL_dt rfl (det_loadEk rfl (by first | assumption | omega | decide) Try.isAgg3 rfl rfl) ?_
    refine JL_pd rfl (det_assign rfl) ?_
    refine JL_nil ?_
    refine JE_seq ?_
    refine JC_ret ?_
    -- stop: out
    refine JE_out (.inl rfl) () (results1 Try.results60 (res_tmp rfl)) (by rw [dif_pos (by omega)]) (List.Perm.refl _) (fun _ _ => trivial)
def encGM (z : Gp × Ms) : List Value := [.agg #[I z.1.fr, I z.1.to_, I z.1.co], .agg #[I z.2.no, I z.2.coins, I z.2.total]]
theorem gaps_j (a : Option Addr) (n c : Nat) : Cr Try.prog 59 [.slice a n c] KTrue (fun b : Nat => .func (.func 86) #[] #[pt b]) (fun b => KBox b [.slice a n c]) := by
  refine Cx_of Try.func59 rfl Try.ntmps59 rfl fun w0 M0 => ?_
  refine JC_seq ?_
  refine JC_region ?_
  refine JL_step rfl rfl rfl (jo_box rfl rfl) fun b1 => ?_
  refine JL_pd rfl (det_assign rfl) ?_
  refine JL_nil ?_
  refine JE_seq ?_
  refine JC_seq ?_
  refine JC_region ?_
  refine JL_keep b1 noFp ?_
  refine JL_pd rfl (det_makeFuncE rfl rfl) ?_
  refine JL_pd rfl (det_assign rfl) ?_
  refine JL_nil ?_
  refine JE_seq ?_
  refine JC_ret ?_
  -- stop: out
  refine JE_out (.inl rfl) b1 (results1 Try.results59 (res_tmp rfl)) rfl (List.Perm.refl _) (fun w h => h.1)
end Go.Proofs.Ytjbmkdbgobmclaa

/- Walks of bill: the gaps, one by one. -/
namespace Go.Proofs.Ytjbmkdbgobmclaa
open Go.RowKit Go.Shelf

set_option maxRecDepth 100000 in
set_option maxHeartbeats 1000000 in
theorem gaps_it (ts : List Ms) (a : Option Addr) (c : Nat) (b : Nat) (hV : ∀ m ∈ ts, VMs m) (hl : ts.length ≤ 1000) : Iter Try.prog 86 [pt b] encGM (KAnd (KBox b [.slice a ts.length c]) (KSl a ts.length c encM ts)) (gapsL ts) := by
  intro l Rel J Jx ch hJ hy
  have hgl : (gapsL ts).length = ts.length := gapsF_len ts zM
  refine Cx_of Try.func86 rfl Try.ntmps86 rfl fun w0 M0 => ?_
  refine JC_seq ?_
  refine JC_region ?_
  refine JL_pd rfl (det_build rfl (bld_94)) ?_
  refine JL_step rfl rfl rfl (jo_alloc0 Try.zeroValue94 rfl) fun b3 => ?_
  refine JL_step0 rfl rfl (jo_store rfl rfl rfl (by first | (simp only [splice_norm]; done) | (simp only [splice_norm]; rfl) | rfl) Try.sizeOf94 rfl rfl) fun _ => ?_
  refine JL_nil ?_
  refine JE_seq ?_
  refine JC_seq ?_
  refine JC_region ?_
  refine JL_dt rfl (det_loadK rfl Try.isAgg99 rfl) ?_
  refine JL_pd rfl (det_len rfl Try.runUnderlying99) ?_
  refine JL_pd rfl (det_move rfl) ?_
  refine JL_nil ?_
  refine JE_seq ?_
  refine JC_block ?_
  -- stop: loop
  refine JC_loopF (γ := Nat × Ms × Chunk) (fun q => q.1 ≤ ts.length ∧ (q.2.1 = if h0 : 0 < q.1 ∧ q.1 - 1 < ts.length then ts[q.1 - 1]'h0.2 else zM) ∧ J ((gapsL ts).take q.1) q.2.2) (fun q => [(9, I q.1)]) (fun q => [bx b3 [I q.2.1.no, I q.2.1.coins, I q.2.1.total], q.2.2]) (fun q => ts.length - q.1) (0, zM, ch) ⟨Nat.zero_le _, rfl, by simpa using hJ⟩ (stsub_consI rfl rfl stsub_nil) (ht_bx rfl (ht_cons ht_nil)) ?_
  rintro ⟨i, last, c'⟩ ⟨hi, hla, hJi⟩ K hK
  dsimp only [List.cons_append, List.nil_append] at hi hla hJi ⊢
  refine JC_seq ?_
  refine JC_region ?_
  refine JL_pd rfl (det_lss rfl rfl) ?_
  refine JL_nil ?_
  refine JE_seq ?_
  refine JC_seq ?_
  -- stop: cond
  refine JC_if rfl (fun h1 => ?_) (fun h1 => ?_)
  · have hi2 : i < ts.length := by omega
    have hvm := hV _ (List.getElem_mem hi2)
    have hlv : last = zM ∨ VMs last := by
      rw [hla]
      split
      · rename_i h; exact .inr (hV _ (List.getElem_mem h.2))
      · exact .inl rfl
    have hgi : (gapsL ts)[i]'(by omega) = (gapOf last ts[i], ts[i]) := (gapsF_get ts zM i hi2).trans (by
      rw [hla]
      by_cases h0 : i = 0
      · subst h0; rfl
      · rw [dif_neg h0, dif_pos (show 0 < i ∧ i - 1 < ts.length from ⟨by omega, by omega⟩)])
    have hsn : (gapsL ts).take (i + 1) = (gapsL ts).take i ++ [(gapOf last ts[i], ts[i])] := by rw [take_snoc (show i < (gapsL ts).length by omega), hgi]
    have hpx : (gapsL ts).take i ++ [(gapOf last ts[i], ts[i])] <+: gapsL ts := by rw [← hsn]; exact List.take_prefix _ _
    have hbl : 0 ≤ last.no ∧ last.no ≤ 60 ∧ 0 ≤ last.total ∧ last.total ≤ 60000 := by
      rcases hlv with rfl | h
      · decide
      · have := h.n0; have := h.n1; have := h.t0; have := h.t1; omega
    have v1 := hvm.n0
    have v2 := hvm.n1
    have v3 := hvm.c0
    have v4 := hvm.c1
    have v5 := hvm.t0
    have v6 := hvm.t1
    refine JC_skip ?_
    refine JE_seq ?_
    refine JC_seq ?_
    refine JC_block ?_
    refine JC_seq ?_
    refine JC_region ?_
    refine JL_dt rfl (det_indexAddr rfl rfl (by first | rfl | omega) (by first | assumption | omega | decide) Try.runUnderlying99 Try.sizeOf94) ?_
    refine JL_dt rfl (det_loadEA rfl (by first | assumption | omega | decide) Try.isAgg94 Try.sizeOf94 rfl rfl rfl) ?_
    refine JL_step rfl rfl rfl (jo_alloc0 Try.zeroValue94 rfl) fun b5 => ?_
    refine JL_step0 rfl rfl (jo_store rfl rfl rfl (by first | (simp only [splice_norm]; done) | (simp only [splice_norm]; rfl) | rfl) Try.sizeOf94 rfl rfl) fun _ => ?_
    refine JL_nil ?_
    refine JE_seq ?_
    refine JC_seq ?_
    refine JC_seq ?_
    refine JC_draw [14] (by kernel_rfl) ?_
    refine JA_pd (i := 0) rfl (by kernel_rfl) rfl rfl (det_move rfl) ?_
    refine JA_pd (i := 1) rfl (by kernel_rfl) rfl rfl (det_fieldAddr rfl fo_94_0) ?_
    refine JA_dt (i := 2) rfl (by kernel_rfl) (by kernel_rfl) rfl rfl (det_loadK rfl Try.isAgg3 rfl) ?_
    refine JA_pd (i := 3) rfl (by kernel_rfl) rfl rfl (det_add rfl rfl ⟨by omega, by omega⟩) ?_
    refine JA_pd (i := 4) rfl (by kernel_rfl) rfl rfl (det_fieldAddr rfl fo_94_0) ?_
    refine JA_dt (i := 5) rfl (by kernel_rfl) (by kernel_rfl) rfl rfl (det_loadK rfl Try.isAgg3 rfl) ?_
    refine JA_pd (i := 6) rfl (by kernel_rfl) rfl rfl (det_sub rfl rfl ⟨by omega, by omega⟩) ?_
    refine JA_dt (i := 7) rfl (by kernel_rfl) (by kernel_rfl) rfl rfl (det_loadKA rfl Try.isAgg94 Try.sizeOf94 rfl rfl) ?_
    refine JA_pd (i := 9) rfl (by kernel_rfl) rfl rfl (det_fieldAddr rfl fo_94_2) ?_
    refine JA_dt (i := 10) rfl (by kernel_rfl) (by kernel_rfl) rfl rfl (det_loadK rfl Try.isAgg3 rfl) ?_
    refine JA_dt (i := 13) rfl (by kernel_rfl) (by kernel_rfl) rfl rfl (det_loadKA rfl Try.isAgg94 Try.sizeOf94 rfl rfl) ?_
    refine JA_one (i := 8) (by kernel_rfl) rfl rfl (jo_callv rfl rfl Try.call87 rfl (ahead_j ts[i] hvm)) (fun _ => ⟨hsub_refl, fun _ h => h⟩) fun _ => ?_
    refine JA_pd (i := 11) rfl (by kernel_rfl) rfl rfl (det_sub rfl rfl ⟨by omega, by omega⟩) ?_
    refine JA_pd (i := 12) rfl (by kernel_rfl) rfl rfl (det_build rfl (bld_108_0_1_2 _ _ _)) ?_
    refine JA_tail (i := 14) (by kernel_rfl) rfl rfl rfl rfl (jo_yield c' rfl rfl rfl (hy _ (gapOf last ts[i], ts[i]) c' hJi hpx)) fun b27 => ?_
    refine JT_pd (i := 15) rfl (by kernel_rfl) rfl rfl (det_not rfl) ?_
    refine JT_done (by kernel_rfl) ?_
    refine JE_seq ?_
    -- stop: cond
    refine JC_pure (p := if b27.1 = true then J _ b27.2 else Jx _ b27.2) (fun w h => h.1) fun hq => ?_
    refine JC_cond rfl (fun k3 => ?_) (fun k3 => ?_)
    · simp only [Bool.not_eq_true'] at k3
      rw [k3, if_neg (by decide)] at hq
      refine JC_ret ?_
      refine JE_seq_ret ?_
      refine JE_block_ret ?_
      refine JE_seq_ret ?_
      refine JE_then_ret ?_
      refine JE_block_ret ?_
      -- stop: out
      refine JE_out (.inl rfl) (_, false, (gapsL ts).take i ++ [(gapOf last ts[i], ts[i])], b27.2) (results0 Try.results86 ) rfl pick_perm (fun w h => by simp only [Bool.false_eq_true, if_false]; exact ⟨hpx, hq⟩)
    · simp only [Bool.not_eq_false'] at k3
      rw [k3, if_pos rfl] at hq
      refine JC_skip ?_
      refine JE_seq ?_
      refine JC_region ?_
      refine JL_dt rfl (det_loadKA rfl Try.isAgg94 Try.sizeOf94 rfl rfl) ?_
      refine JL_step0 rfl rfl (jo_store rfl rfl rfl (by first | (simp only [splice_norm]; done) | (simp only [splice_norm]; rfl) | rfl) Try.sizeOf94 rfl rfl) fun _ => ?_
      refine JL_nil ?_
      refine JE_block ?_
      refine JE_seq ?_
      refine JC_region ?_
      refine JL_pd rfl (det_add rfl rfl ⟨by omega, by omega⟩) ?_
      refine JL_pd rfl (det_move rfl) ?_
      refine JL_nil ?_
      -- stop: end
      refine JE_roundF hK (i + 1, ts[i], b27.2) ⟨by simp only; omega, by simp only; rw [dif_pos (show 0 < i + 1 ∧ i + 1 - 1 < ts.length from ⟨by omega, by omega⟩)]; rfl, by simp only; rw [hsn]; exact hq⟩ (by simp only; omega) (stsub_consI rfl (by simp only; omega) stsub_nil) (ht_bx rfl (ht_cons ht_nil))
  · obtain rfl : i = ts.length := by omega
    rw [List.take_of_length_le (by omega)] at hJi
    refine JC_exit ?_
    refine JE_seq_exit ?_
    refine JE_then_exit ?_
    refine JE_block_here ?_
    -- stop: out
    refine JE_out (.inr rfl) (_, true, [], c') (results0 Try.results86 ) rfl pick_perm (fun w h => by rw [if_pos rfl]; exact hJi)
end Go.Proofs.Ytjbmkdbgobmclaa

/- Walks of bill: messages in order. -/
namespace Go.Proofs.Ytjbmkdbgobmclaa
open Go.RowKit Go.Shelf Go.Proofs Go.Lib
open Go.Sort hiding Below

/-- The world has grown alone. -/
def Grown (W w' : World) : Prop := ∃ q os, w' = grow (W.drewN q) os
theorem Grown.refl (W : World) : Grown W W := ⟨0, #[], by simp [World.drewN]⟩
theorem Grown.alloc {W w : World} (h : Grown W w) (o : Obj) : Grown W (w.alloc o) := by
  obtain ⟨q, os, rfl⟩ := h
  exact ⟨q, os ++ #[o], by rw [alloc_eq_grow, grow_grow]⟩
def okM (m : Ms) : Prop := -1000 ≤ m.no ∧ m.no ≤ 1000
def noOf (s t : Ms) : Int := s.no - t.no
theorem no_any (s t : Ms) (w : World) (h1 : okM s) (h2 : okM t) :
    Calls Try.prog 83 #[.agg #[I s.no, I s.coins, I s.total], .agg #[I t.no, I t.coins, I t.total]] w fun e w' => e = .returned (I (noOf s t)) ∧ Grown w w' := by
  unfold okM at h1 h2
  go_enter Try.func83, Try.ntmps83
  go_wp2
  go_ret
  exact ⟨rfl, ((Grown.refl w).alloc _).alloc _⟩
abbrev BMs := { m : Ms // okM m }
instance : Inhabited BMs := ⟨⟨zM, by simp [okM]⟩⟩
def encBM (x : BMs) : List Value := encM x.1
theorem swoM : SWO (ltOf fun x y : BMs => noOf x.1 y.1) where
  irrefl x := by simp [ltOf, noOf]
  trans x y z h1 h2 := by
    have h1 : x.1.no - y.1.no < 0 := of_decide_eq_true h1
    have h2 : y.1.no - z.1.no < 0 := of_decide_eq_true h2
    exact decide_eq_true (show x.1.no - z.1.no < 0 by omega)
  ntrans x y z h1 h2 := by
    have h1 : ¬ x.1.no - y.1.no < 0 := of_decide_eq_false h1
    have h2 : ¬ y.1.no - z.1.no < 0 := of_decide_eq_false h2
    exact decide_eq_false (show ¬ x.1.no - z.1.no < 0 by omega)
theorem sortWorldK_heap {α : Type} [Inhabited α] (enc : α → List Value) (k : Nat) (w : World) (g off n : Nat) (d : Array α) (os : Array Obj) (i : Nat) (hi : i < w.heap.size) (hg : g ≠ i) : (sortWorldK enc k w g off n d os).heap[i]? = w.heap[i]? := by
  show ((w.heap.modify g _) ++ os)[i]? = w.heap[i]?
  rw [Array.getElem?_append_left (by simp; omega), Array.getElem?_modify, if_neg hg]
theorem holds_of_rowM {w : World} {B g cap : Nat} {T : TypeId} {ds : List BMs} (h : Row w B T 3 g ds.length cap (ds.flatMap encBM)) : HoldsK encBM 3 w g 0 ds.toArray := by
  intro j hj
  rw [size_flatK, List.size_toArray] at hj
  have hi : j / 3 < ds.length := by omega
  rw [get_flatK _ _ _ _ (by simpa using hj), Nat.zero_add]
  refine ⟨h.cell j ?_, h.free j⟩
  have e := flatMap_get encBM 3 (fun _ => rfl) ds (j / 3) (j % 3) ds[j / 3] (List.getElem?_eq_getElem hi) (Nat.mod_lt _ (by decide))
  rw [show j / 3 * 3 + j % 3 = j from by omega] at e
  rw [e, getElem!_pos ds.toArray (j / 3) (by simpa using hi)]
  have hl : j % 3 < (encBM ds[j / 3]).length := by show j % 3 < 3; omega
  rw [List.getElem?_eq_getElem hl, getElem!_pos _ _ (by simpa using hl)]
  rfl
theorem cells_of_holdsM {w : World} {g : Nat} {d : Array BMs} (h : HoldsK encBM 3 w g 0 d) : CellsAt w g 0 (d.toList.flatMap encBM) := by
  intro i c hc
  have hl := (List.getElem?_eq_some_iff.1 hc).1
  rw [flatMap_len encBM 3 (fun _ => rfl)] at hl
  have hi : i / 3 < d.toList.length := by omega
  have hi' : i / 3 < d.size := by simpa using hi
  have e := flatMap_get encBM 3 (fun _ => rfl) d.toList (i / 3) (i % 3) d.toList[i / 3] (List.getElem?_eq_getElem hi) (Nat.mod_lt _ (by decide))
  rw [show i / 3 * 3 + i % 3 = i from by omega, hc] at e
  have h2 := (h.cell (i := i / 3) (c := i % 3) hi' (Nat.mod_lt _ (by decide))).1
  rw [show 0 + i / 3 * 3 + i % 3 = 0 + i from by omega] at h2
  rw [h2, getElem!_pos d (i / 3) hi']
  have hl2 : i % 3 < (encBM d[i / 3]).length := by show i % 3 < 3; omega
  rw [getElem!_pos (encBM d[i / 3]) _ hl2]
  rw [Array.getElem_toList, List.getElem?_eq_getElem hl2] at e
  exact e.symm
/-- A slice of the call's own, of which only what it holds is known. -/
def kl {α : Type} (v : Value) (enc : α → List Value) (xs : List α) : Chunk := ⟨fun k => v.ownBlock = some k, fun w => ∃ a cap, v = .slice a xs.length cap ∧ KSl a xs.length cap enc xs w⟩
section
variable {X : Ctx} {P : Program} {st : Sto} {H H' : List Chunk} {R : World → Prop} {k : Kont} {ops : Array Oper} {rest : List Oper} {Q : Exit → Act → World → Prop}
theorem JC_kl {α : Type} {enc : α → List Value} {c : Code} (v : Value) (xs : List α) [hp : Pick H (kl v enc xs) H'] (hF : ∀ b, ¬ X.Fp b) (h : ∀ a cap, v = .slice a xs.length cap → JC X P c k st H' (KAnd (KSl a xs.length cap enc xs) R)) : JC X P c k st H R := fun a w ho => by
  have ho2 := ho.freeze (c := kl v enc xs) hF
  obtain ⟨a2, cap, e, _⟩ := ho2.r.1
  exact h a2 cap e a w (ho2.know fun w' hw => ⟨by obtain ⟨a3, cap3, e3, h3⟩ := hw.1; rw [e] at e3; cases e3; exact h3, hw.2⟩)
theorem JL_kl {α : Type} {enc : α → List Value} (v : Value) (xs : List α) [hp : Pick H (kl v enc xs) H'] (hF : ∀ b, ¬ X.Fp b) (h : ∀ a cap, v = .slice a xs.length cap → JL X P ops Q rest st H' (KAnd (KSl a xs.length cap enc xs) R)) : JL X P ops Q rest st H R := fun a w ho => by
  have ho2 := ho.freeze (c := kl v enc xs) hF
  obtain ⟨a2, cap, e, _⟩ := ho2.r.1
  exact h a2 cap e a w (ho2.know fun w' hw => ⟨by obtain ⟨a3, cap3, e3, h3⟩ := hw.1; rw [e] at e3; cases e3; exact h3, hw.2⟩)
end
theorem enter_read1 (args : Array Value) (w : World) : (callFunc 83 args).run Try.prog w = .ok (.enter 83 args) w := by kernel_rfl
theorem enter_pdq (args : Array Value) (w : World) : (callFunc 100 args).run Try.prog w = .ok (.enter 100 args) w := by kernel_rfl
theorem enter_len (args : Array Value) (w : World) : (callFunc 101 args).run Try.prog w = .ok (.enter 101 args) w := by kernel_rfl
set_option maxHeartbeats 2000000 in
theorem SortFunc_none (p : Option Addr) (cap : Nat) (fv : Value) (w : World) :
    Calls Try.prog 82 #[.slice p 0 cap, fv] w fun e w' => e = .returned (.tuple #[]) ∧ w' = w := by
  have hp := fun lim W => AnyF.pdqsortCmpFunc_none Try.sortM p cap lim fv W
  have hl : ∀ W, Calls Try.prog 101 #[.int .u64 0] W fun e w' => e = .returned (.int .i64 (Lib.bitLen 0 : Nat)) ∧ w' = W := fun W => Any.bits_Len (SlLaysF0.n15.bits Try.lenM) 0 W (by omega) (by omega)
  change ∀ lim W, Calls Try.prog 100 _ _ _ at hp
  go_enter Try.func82, Try.ntmps82
  go_wp2_with (first | (go_at_call 101; refine Calls.mono (hl _) ?_; rintro e w' ⟨rfl, rfl⟩) | (go_at_call 100; refine Calls.mono (hp _ _) ?_; rintro e w' ⟨rfl, rfl⟩))
  go_end0
  exact ⟨rfl, rfl⟩
set_option maxHeartbeats 2000000 in
theorem SortFunc_s (g cap : Nat) (d : Array BMs) (w : World) (hcmp : CmpLays Try.prog 83 #[] encBM 3 (fun x y => noOf x.1 y.1) g 0 d.size w) (hH : HoldsK encBM 3 w g 0 d) (hblk : g < w.heap.size) (hsz : d.size < 4611686018427387904) :
    Calls Try.prog 82 #[.slice (some ⟨g, 0, none⟩) d.size cap, .func (.func 83) #[] #[]] w fun e w' =>
      e = .returned (.tuple #[]) ∧ ∃ d' n os, PermIn 0 d.size d d' ∧ SortedIn (ltOf fun x y : BMs => noOf x.1 y.1) 0 d.size d' ∧ w' = sortWorldK encBM 3 w g 0 n d' os := by
  have hlim : Lib.bitLen d.size < 4611686018427387904 := Nat.lt_of_le_of_lt (Lib.bitLen_le d.size 62 (by omega) (by omega)) (by omega)
  have hp := AnyQ.pdqsortCmpFunc_all Try.sortM 3 Try.isAgg94 Try.sizeOf94 encBM (fun x y => noOf x.1 y.1) 83 #[] swoM g 0 cap d w enter_read1 hcmp ⟨fun _ => rfl, fun x v hv => by simp [encBM, encM] at hv; rcases hv with rfl | rfl | rfl <;> rfl, hH, hblk⟩ (d.size + 1) 0 d.size (Lib.bitLen d.size) d w (by omega) rfl (SWK.start hH) (Nat.zero_le _) (Nat.le_refl _) hsz hlim (Or.inl rfl)
  have hl : Calls Try.prog 101 #[.int .u64 (d.size : Int)] w fun e w' => e = .returned (.int .i64 (Lib.bitLen d.size : Nat)) ∧ w' = w := by
    have h := Any.bits_Len (SlLaysF0.n15.bits Try.lenM) (d.size : Int) w (by omega) (by omega)
    rwa [Int.toNat_natCast] at h
  have wr : IntKind.u64.wrap (d.size : Int) = d.size := by simp [IntKind.wrap, IntKind.bits, IntKind.signed]; omega
  have hss := pdq_sorts (ltOf fun x y : BMs => noOf x.1 y.1) swoM d 0 d.size (Lib.bitLen d.size) true true (Nat.zero_le _) (Nat.le_refl _) (Or.inl rfl)
  clear hH hcmp
  change Calls Try.prog 100 _ _ _ at hp
  go_enter Try.func82, Try.ntmps82
  go_wp2_with (first | (go_at_call 101; refine Calls.mono hl ?_; rintro e w' ⟨rfl, rfl⟩) | (go_at_call 100; refine Calls.mono hp ?_; rintro e w' ⟨rfl, n, os, rfl⟩))
  go_end0
  exact ⟨rfl, _, n, os, hss.1, hss.2, rfl⟩
set_option maxHeartbeats 1000000 in
theorem sortM_x (v : Value) (ls : List Ms) (hok : ∀ l ∈ ls, okM l) (hs : ls.length ≤ 1000000) :
    Cx Try.prog 82 [v, .func (.func 83) #[] #[]] [ow v 94 3 ls.length (ls.flatMap encM)] KTrue (fun _ : { ts : List Ms // ts.Perm ls ∧ ts.Pairwise fun x y => x.no ≤ y.no } => .tuple #[])
      (fun ts => [kl v encM ts.1]) (fun _ => KTrue) := by
  intro M w a1 a2 a3 a4
  obtain ⟨ds, rfl⟩ : ∃ ds : List BMs, ls = ds.map (·.1) := ⟨ls.attach.map fun x => ⟨x.1, hok x.1 x.2⟩, by simp⟩
  have hc := a2 _ (List.mem_singleton.2 rfl)
  have hfl : ((ds.map (·.1)).flatMap encM) = ds.flatMap encBM := by rw [List.flatMap_map]; rfl
  rw [hfl] at hc
  simp only [List.length_map] at hc hs ⊢
  rcases hc.1.now.2 with ⟨rfl, h0⟩ | ⟨g, cap, cur, rfl, h1, h2, h3, h4, h5, h6⟩
  · have hds : ds = [] := List.eq_nil_of_length_eq_zero h0
    subst hds
    refine (SortFunc_none none 0 (.func (.func 83) #[] #[]) w).mono ?_
    rintro e w' ⟨rfl, rfl⟩
    refine ⟨⟨[], by simp, List.Pairwise.nil⟩, M, rfl, Moves.refl _, fun _ h => h, fun _ h => .inl h, a1, fun c hc => ?_, by simp, fun _ _ => trivial⟩
    obtain rfl := List.mem_singleton.1 hc
    refine ⟨⟨fun b hb => (by cases hb), fun w2 _ _ => ⟨none, 0, rfl, ⟨Nat.le_refl _, by decide, fun _ => ⟨rfl, rfl⟩, fun h => absurd rfl h⟩, rfl⟩⟩, fun b hb => (by cases hb)⟩
  · have hrow : Row w 0 94 3 g ds.length cap (ds.flatMap encBM) := hc.1.now
    have hcmp : CmpLays Try.prog 83 #[] encBM 3 (fun x y => noOf x.1 y.1) g 0 ds.toArray.size w := fun m os dk hd x y => no_any x.1 y.1 _ x.2 y.2
    have hH := holds_of_rowM hrow
    have hcon := SortFunc_s g cap ds.toArray w hcmp hH hrow.lt (by simp; omega)
    simp only [List.size_toArray] at hcon
    refine hcon.mono ?_
    rintro e w' ⟨rfl, d', n, os, ⟨hsz, _, hp⟩, hso, rfl⟩
    have hsz : d'.size = ds.length := by simpa using hsz
    have hperm : d'.toList.Perm ds := by
      have e1 : d'.extract 0 ds.length = d' := by rw [← hsz]; simp
      rw [e1] at hp
      simpa using hp
    have hpw : (d'.toList.map (·.1)).Pairwise fun x y => x.no ≤ y.no := by
      rw [List.pairwise_map, List.pairwise_iff_getElem]
      intro i j hi hj hij
      have h1 := hso i j (Nat.zero_le _) hij (by simpa [hsz] using hj)
      rw [getElem!_pos d' i (by simpa using hi), getElem!_pos d' j (by simpa using hj)] at h1
      rw [Array.getElem_toList, Array.getElem_toList]
      have h1 : ¬ d'[j].1.no - d'[i].1.no < 0 := of_decide_eq_false h1
      omega
    have hlen : (d'.toList.map (·.1)).length = ds.length := by rw [List.length_map, hperm.length_eq]
    have hcell := cells_of_holdsM (holdsK_sortWorldK encBM 3 w g 0 n ds.toArray d' os hrow.lt hH (by simpa using hsz))
    have hzz : w.heap.size ≤ (sortWorldK encBM 3 w g 0 n d' os).heap.size := size_sortWorldK_c ..
    refine ⟨⟨d'.toList.map (·.1), hperm.map _, hpw⟩, M, rfl, ⟨rfl, rfl, rfl, hzz, fun i hi hn => sortWorldK_heap _ _ _ _ _ _ _ _ i hi fun e => hn ⟨_, List.mem_singleton.2 rfl, by show _ = some i; rw [← e]; rfl⟩⟩, fun _ h => h, fun _ h => .inl h, fun b hb => Nat.lt_of_lt_of_le (a1 b hb) hzz, fun c hc => ?_, by simp, fun _ _ => trivial⟩
    obtain rfl := List.mem_singleton.1 hc
    have hown : ∀ b, (kl (.slice (some ⟨g, 0, none⟩) ds.length cap) encM (d'.toList.map (·.1))).own b → b = g := fun b hb => by
      have : (Value.slice (some (⟨g, 0, none⟩ : Addr)) ds.length cap).ownBlock = some b := hb
      simpa [Value.ownBlock] using this.symm
    refine ⟨⟨fun b hb => by rw [hown b hb]; exact Nat.lt_of_lt_of_le hrow.lt hzz, fun w2 hz2 he2 => ⟨some ⟨g, 0, none⟩, cap, by rw [hlen], ⟨by rw [hlen]; exact h3, by omega, fun h => (by cases h), fun _ => ⟨g, 0, rfl, ?_, fun i c hi => ?_⟩⟩, rfl⟩⟩, fun b hb => ⟨?_, .inl ⟨_, List.mem_singleton.2 rfl, ?_⟩⟩⟩
    · exact Nat.lt_of_lt_of_le (Nat.lt_of_lt_of_le hrow.lt hzz) hz2
    · have e2 : ((d'.toList.map (·.1)).flatMap encM) = d'.toList.flatMap encBM := by rw [List.flatMap_map]; rfl
      rw [e2] at hi
      have h7 := hcell i c hi
      have h8 := he2 g rfl
      simp only [World.cell?, h8] at h7 ⊢
      exact h7
    · rw [hown b hb]; exact (a2 _ (List.mem_singleton.2 rfl)).2 g rfl
    · rw [hown b hb]; rfl
end Go.Proofs.Ytjbmkdbgobmclaa

/- Walks of bill: read. -/
namespace Go.Proofs.Ytjbmkdbgobmclaa
open Go.RowKit Go.Shelf

def ekM (m : Ms) : Value := .agg #[I m.no, I m.coins, I m.total]
theorem chkM_run (n : Nat) (e : Bool) (a : Ms) (w : World) : (Instr.checkKey e (n + 2) 94 (ekM a)).run Try.prog w = .ok () w := by
  unfold ekM
  simp [Instr.checkKey, go_sem]
theorem Ms.ext' {a b : Ms} : a = b ↔ a.no = b.no ∧ a.coins = b.coins ∧ a.total = b.total := by
  cases a; cases b; simp
theorem goodM : GoodKey Try.prog 94 ekM := by
  refine GoodKey.of_struct Try.underlying94 (fun b k w => chkM_run 9998 b k w) (fun a b w => ?_) (fun k => ?_) (fun a b h => ?_)
  · show (Op.equalIn 10000 94 (.agg #[I a.no, I a.coins, I a.total]) (.agg #[I b.no, I b.coins, I b.total])).run Try.prog w = _
    rw [eqa_94]
    congr 1; exact decide_eq_decide.2 Ms.ext'.symm
  · show Instr.sameBits (9999 + 1) _ _ = true
    simp [ekM, Instr.sameBits]
  · simp [ekM] at h; exact Ms.ext'.2 h
def ddM (t : List Ms) : Ms → Option Bool := fun m => if m ∈ t then some true else none
theorem ddM_nil : ddM [] = fun _ => none := by funext m; simp [ddM]
theorem ddM_snoc (t : List Ms) (m : Ms) : upd (ddM t) m true = ddM (t ++ [m]) := by
  funext x
  unfold upd ddM
  by_cases h : x = m
  · subst h; rw [if_pos rfl, if_pos (by simp)]
  · rw [if_neg h]
    by_cases h2 : x ∈ t
    · rw [if_pos h2, if_pos (by simp [h2])]
    · rw [if_neg h2, if_neg (by simp [h2, h])]
theorem ddL_take {l : List Ms} {i : Nat} (h : i < l.length) : ddL (l.take (i + 1)) = if l[i] ∈ ddL (l.take i) then ddL (l.take i) else ddL (l.take i) ++ [l[i]] := by
  rw [take_snoc h]
  unfold ddL
  rw [List.foldl_append]
  rfl
theorem gapsF_bd : ∀ (ts : List Ms) (l : Ms), (l = zM ∨ VMs l) → (∀ m ∈ ts, VMs m) → ∀ z ∈ gapsF l ts, gapBd z.1 ∧ VMs z.2
  | [], _, _, _, z, hz => by cases hz
  | m :: ts, l, hl, hV, z, hz => by
    have hm := hV m (by simp)
    unfold gapsF at hz
    rcases List.mem_cons.1 hz with rfl | hz
    · exact ⟨gap_bd hl hm, hm⟩
    · exact gapsF_bd ts m (.inr hm) (fun m hm => hV m (by simp [hm])) z hz
theorem gaps_bd {ts : List Ms} (hV : ∀ m ∈ ts, VMs m) : ∀ z ∈ gapsL ts, gapBd z.1 ∧ VMs z.2 := gapsF_bd ts zM (.inl rfl) hV
abbrev readV (l : List Ms) (q : Option Addr × Nat) : Value := if readE l = 0 then .tuple #[.agg #[.slice q.1 (srtL l).length q.2], I 0] else .tuple #[.agg #[.slice none 0 0], I (readE l)]
set_option maxRecDepth 100000 in
set_option maxHeartbeats 1000000 in
theorem read_jj (a : Option Addr) (c : Nat) (l : List Ms) (hl : l.length ≤ 1000) : Cr Try.prog 58 [.slice a l.length c] (KSl a l.length c encM l) (readV l) (fun q w => readE l = 0 → KSl q.1 (srtL l).length q.2 encM (srtL l) w) := by
  unfold readV
  refine Cx_of Try.func58 rfl Try.ntmps58 rfl fun w0 M0 => ?_
  refine JC_seq ?_
  refine JC_region ?_
  refine JL_step rfl rfl rfl (jo_alloc0 Try.zeroValue101 rfl) fun b2 => ?_
  refine JL_pd rfl (det_assign rfl) ?_
  refine JL_nil ?_
  refine JE_seq ?_
  refine JC_scope rfl ?_
  refine JC_seq ?_
  refine JC_block ?_
  refine JC_seq ?_
  refine JC_region ?_
  refine JL_pd rfl (det_move rfl) ?_
  refine JL_pd rfl (det_len rfl Try.runUnderlying33) ?_
  refine JL_pd rfl (det_gtr rfl rfl) ?_
  refine JL_pd rfl (det_assign rfl) ?_
  refine JL_nil ?_
  refine JE_seq ?_
  -- stop: cond
  refine JC_if rfl (fun h1 => ?_) (fun h1 => ?_)
  · have hE : readE l = 3 := by unfold readE; rw [if_pos (by omega)]
    refine JC_seq ?_
    refine JC_region ?_
    refine JL_pd rfl (det_build rfl (bld_101)) ?_
    refine JL_step0 rfl rfl (jo_store rfl rfl rfl (by first | (simp only [splice_norm]; done) | (simp only [splice_norm]; rfl) | rfl) Try.sizeOf101 rfl rfl) fun _ => ?_
    refine JL_pd rfl (det_assign rfl) ?_
    refine JL_nil ?_
    refine JE_seq ?_
    refine JC_ret ?_
    refine JE_block_ret ?_
    refine JE_seq_ret ?_
    refine JE_scope_ret ?_
    -- stop: out
    refine JE_out (.inl rfl) (none, 0) (results2 Try.results58 (res_box rfl Try.isAgg101 Try.sizeOf101 rfl) (res_tmp rfl)) (by rw [if_neg (by rw [hE]; decide), hE]) (List.Perm.refl _) (fun w h h0 => absurd h0 (by rw [hE]; decide))
  · have hV1 := allM_j msOk 79 [] [] KTrue Try.call79 a c l (fun x hx => msvalid_j x) (by omega)
    refine JC_seq ?_
    refine JC_region ?_
    refine JL_pd rfl (det_move rfl) ?_
    refine JL_step rfl rfl rfl (jo_callv rfl rfl Try.call78 rfl (hV1)) fun _ => ?_
    refine JL_pd rfl (det_not rfl) ?_
    refine JL_pd rfl (det_assign rfl) ?_
    refine JL_nil ?_
    refine JE_seq ?_
    -- stop: cond
    refine JC_cond rfl (fun h2 => ?_) (fun h2 => ?_)
    · simp only [Bool.not_eq_true'] at h2
      have hE : readE l = 1 := by unfold readE; rw [if_neg (by omega), if_pos h2]
      refine JC_seq ?_
      refine JC_region ?_
      refine JL_pd rfl (det_build rfl (bld_101)) ?_
      refine JL_step0 rfl rfl (jo_store rfl rfl rfl (by first | (simp only [splice_norm]; done) | (simp only [splice_norm]; rfl) | rfl) Try.sizeOf101 rfl rfl) fun _ => ?_
      refine JL_pd rfl (det_assign rfl) ?_
      refine JL_nil ?_
      refine JE_seq ?_
      refine JC_ret ?_
      refine JE_block_ret ?_
      refine JE_seq_ret ?_
      refine JE_scope_ret ?_
      -- stop: out
      refine JE_out (.inl rfl) (none, 0) (results2 Try.results58 (res_box rfl Try.isAgg101 Try.sizeOf101 rfl) (res_tmp rfl)) (by rw [if_neg (by rw [hE]; decide), hE]) (List.Perm.refl _) (fun w h h0 => absurd h0 (by rw [hE]; decide))
    · simp only [Bool.not_eq_false'] at h2
      have hV : ∀ m ∈ l, VMs m := fun m hm => msOk_iff.1 (List.all_eq_true.1 h2 m hm)
      refine JC_skip ?_
      refine JE_block ?_
      refine JE_seq ?_
      refine JC_seq ?_
      refine JC_region ?_
      refine JL_step rfl rfl rfl (jo_makeMap ekM vB) fun b20 => ?_
      refine JL_pd rfl (det_assign rfl) ?_
      refine JL_nil ?_
      refine JE_seq ?_
      refine JC_seq ?_
      refine JC_region ?_
      refine JL_pd rfl (det_assign rfl) ?_
      refine JL_nil ?_
      refine JE_seq ?_
      refine JC_seq ?_
      refine JC_seq ?_
      refine JC_region ?_
      refine JL_pd rfl (det_move rfl) ?_
      refine JL_pd rfl (det_len rfl Try.runUnderlying33) ?_
      refine JL_pd rfl (det_move rfl) ?_
      refine JL_nil ?_
      refine JE_seq ?_
      refine JC_block ?_
      -- stop: loop
      refine JC_nil 94 3 ?_
      refine JC_loopF (γ := Nat × Value) (fun q => q.1 ≤ l.length) (fun q => [(23, I q.1), (5, q.2)]) (fun q => [mp b20 ekM vB (ddM (ddL (l.take q.1))), ow q.2 94 3 (ddL (l.take q.1)).length ((ddL (l.take q.1)).flatMap encM)]) (fun q => l.length - q.1) (0, .slice none 0 0) (by simp) (stsub_consI rfl rfl (stsub_cons rfl stsub_nil)) (ht_mp (by rw [List.take_zero]; exact ddM_nil.symm) (ht_ow rfl rfl ht_nil)) ?_
      rintro ⟨i, v⟩ hi K hK
      dsimp only [List.cons_append, List.nil_append] at hi ⊢
      refine JC_seq ?_
      refine JC_region ?_
      refine JL_pd rfl (det_lss rfl rfl) ?_
      refine JL_nil ?_
      refine JE_seq ?_
      refine JC_seq ?_
      -- stop: cond
      refine JC_if rfl (fun h3 => ?_) (fun h3 => ?_)
      · have hi2 : i < l.length := by omega
        have hsn := ddL_take hi2
        refine JC_skip ?_
        refine JE_seq ?_
        refine JC_seq ?_
        refine JC_block ?_
        refine JC_seq ?_
        refine JC_region ?_
        refine JL_dt rfl (det_indexAddr rfl rfl (by first | rfl | omega) (by first | assumption | omega | decide) Try.runUnderlying33 Try.sizeOf94) ?_
        refine JL_dt rfl (det_loadEA rfl (by first | assumption | omega | decide) Try.isAgg94 Try.sizeOf94 rfl rfl rfl) ?_
        refine JL_step rfl rfl rfl (jo_alloc0 Try.zeroValue94 rfl) fun b7 => ?_
        refine JL_step0 rfl rfl (jo_store rfl rfl rfl (by first | (simp only [splice_norm]; done) | (simp only [splice_norm]; rfl) | rfl) Try.sizeOf94 rfl rfl) fun _ => ?_
        refine JL_nil ?_
        refine JE_seq ?_
        refine JC_seq ?_
        refine JC_region ?_
        refine JL_pd rfl (det_move rfl) ?_
        refine JL_dt rfl (det_loadKA rfl Try.isAgg94 Try.sizeOf94 rfl rfl) ?_
        refine JL_dt rfl (det_lookup1B (ek := ekM) l[i] rfl rfl goodM Try.underlying141 Try.zeroValue4) ?_
        refine JL_pd rfl (det_not rfl) ?_
        refine JL_nil ?_
        refine JE_seq ?_
        -- stop: cond
        refine JC_cond rfl (fun h4 => ?_) (fun h4 => ?_)
        · have hnm : ¬ l[i] ∈ ddL (l.take i) := fun hm => by simp [ddM, hm] at h4
          rw [if_neg hnm] at hsn
          have hdl := dd_len (l.take i)
          rw [List.length_take] at hdl
          refine JC_seq ?_
          refine JC_region ?_
          refine JL_pd rfl (det_move rfl) ?_
          refine JL_dt rfl (det_loadKA rfl Try.isAgg94 Try.sizeOf94 rfl rfl) ?_
          refine JL_step0 rfl rfl (jo_mapUpdate (ek := ekM) (ev := vB) l[i] true (.inl rfl) rfl rfl rfl goodM Try.underlying141) fun _ => ?_
          refine JL_nil ?_
          refine JE_seq ?_
          refine JC_region ?_
          refine JL_pd rfl (det_move rfl) ?_
          refine JL_dt rfl (det_loadKA rfl Try.isAgg94 Try.sizeOf94 rfl rfl) ?_
          refine JL_step rfl rfl rfl (jo_buildSlice rfl (bsl_99_1_0 _ _ _)) fun b35 => ?_
          refine JL_step rfl rfl rfl (jo_append el_99 rfl rfl rfl rfl (by omega)) fun b36 => ?_
          refine JL_pd rfl (det_assign rfl) ?_
          refine JL_nil ?_
          refine JE_block ?_
          refine JE_seq ?_
          refine JC_region ?_
          refine JL_pd rfl (det_add rfl rfl ⟨by omega, by omega⟩) ?_
          refine JL_pd rfl (det_move rfl) ?_
          refine JL_nil ?_
          -- stop: end
          refine JE_roundF hK (i + 1, .slice (some ⟨b36.1, 0, none⟩) ((ddL (l.take i)).length + 1) b36.2) (by simp only; omega) (by simp only; omega) (stsub_consI rfl (by simp only; omega) (stsub_cons rfl stsub_nil)) (ht_mp (by rw [hsn, ddM_snoc]) (ht_ow (by rw [hsn, List.length_append]; rfl) (by rw [hsn, List.flatMap_append]; rfl) ht_nil))
        · have hnm : l[i] ∈ ddL (l.take i) := Classical.byContradiction fun hm => by simp [ddM, hm] at h4
          rw [if_pos hnm] at hsn
          refine JC_skip ?_
          refine JE_block ?_
          refine JE_seq ?_
          refine JC_region ?_
          refine JL_pd rfl (det_add rfl rfl ⟨by omega, by omega⟩) ?_
          refine JL_pd rfl (det_move rfl) ?_
          refine JL_nil ?_
          -- stop: end
          refine JE_roundF hK (i + 1, v) (by simp only; omega) (by simp only; omega) (stsub_consI rfl (by simp only; omega) (stsub_cons rfl stsub_nil)) (ht_mp (by rw [hsn]) (ht_ow (by rw [hsn]) (by rw [hsn]) ht_nil))
      · obtain rfl : i = l.length := by omega
        rw [List.take_length]
        have hokm : ∀ m ∈ ddL l, okM m := fun m hm => by
          have hv := hV m (dd_mem.1 hm)
          have v0 := hv.n0
          have v1 := hv.n1
          exact ⟨by omega, by omega⟩
        have hdl := dd_len l
        refine JC_exit ?_
        refine JE_seq_exit ?_
        refine JE_then_exit ?_
        refine JE_block_here ?_
        refine JE_seq ?_
        refine JC_seq ?_
        refine JC_region ?_
        refine JL_pd rfl (det_move rfl) ?_
        -- stop: op  1 t39 := (call (Call (value f82) (t38 f83) (99 143)))   <0>   75
        refine JL_step rfl rfl rfl (jo_callx rfl rfl Try.call82 rfl (sortM_x v (ddL l) hokm (by omega)) (pick_perm)) fun ts => ?_
        refine JL_nil ?_
        refine JE_seq ?_
        refine JC_seq ?_
        refine JC_region ?_
        refine JL_step rfl rfl rfl (jo_alloc0 Try.zeroValue4 rfl) fun b8 => ?_
        refine JL_step0 rfl rfl (jo_store rfl rfl rfl (by first | (simp only [splice_norm]; done) | (simp only [splice_norm]; rfl) | rfl) Try.sizeOf4 rfl rfl) fun _ => ?_
        refine JL_nil ?_
        refine JE_seq ?_
        refine JC_seq ?_
        refine JC_label ?_
        refine JE_seq ?_
        refine JC_seq ?_
        refine JC_seq ?_
        refine JC_region ?_
        refine JL_pd rfl (det_move rfl) ?_
        -- stop: op  1 t41 := (call (Call (value f59) (t40) (99)))   <0>   78
        obtain ⟨ts, htp, hts⟩ := ts
        have htl : ts.length ≤ l.length := by rw [htp.length_eq]; exact hdl
        have htV : ∀ m ∈ ts, VMs m := fun m hm => hV m (dd_mem.1 (htp.mem_iff.1 hm))
        have hsame := fit_same (srt_up l) hts (htp.trans (srt_perm l).symm)
        have hbds := gaps_bd htV
        dsimp only
        refine JL_kl (enc := encM) v ts noFp ?_
        rintro ta tc rfl
        refine JL_step rfl rfl rfl (jo_call rfl rfl Try.call59 rfl (gaps_j ta ts.length tc)) fun x41 => ?_
        refine JL_nil ?_
        refine JE_seq ?_
        refine JC_block ?_
        -- stop: rangeFunc
        have hit := gaps_it ts ta tc x41 htV (by omega)
        refine JC_rangeI (γ := Bool) (β := Nat) rfl rfl rfl rfl Try.call86 hit (perm1 (bx b8 [.bool true])) (fun w _ h => ⟨Knows.know (F := KBox x41 _) w h, Knows.know (F := KSl ta ts.length tc encM ts) w h⟩) (fun _ => rfl) ?_
          (fun p v => v = true ∧ ∀ z ∈ p, okG z.1 = true) (fun cd p v => cd = .exit 3 ∧ v = false ∧ ∃ z ∈ p, okG z.1 = false) (fun v => [bx b8 [.bool v]]) true ⟨rfl, by simp⟩ rfl
          (fun x t => [(9, pt t), (8, pt b8)]) (fun x t => [bx t [I x.1.fr, I x.1.to_, I x.1.co]]) ?_ ?_ ?_ ?_
        · show ∀ p ∈ [42, 43], p < 58
          decide
        · intro l' x W K0 hK0
          refine JC_region ?_
          refine JL_step rfl rfl rfl (jo_alloc0 Try.zeroValue108 rfl) fun b9 => ?_
          refine JL_step0 rfl rfl (jo_store rfl rfl rfl (by first | (simp only [splice_norm]; done) | (simp only [splice_norm]; rfl) | rfl) Try.sizeOf108 rfl rfl) fun _ => ?_
          refine JL_nil ?_
          -- stop: end
          exact JE_asg (hK0 b9) (stsub_cons rfl (stsub_cons rfl stsub_nil)) (hsub_cons hsub_nil) (fun _ h => trivial)
        · rintro l' p x v t W K1 QX ⟨rfl, hno⟩ hpx hK1 hX
          have hgb := (hbds x (hpx.subset (by simp))).1
          refine JC_block ?_
          refine JC_seq ?_
          refine JC_region ?_
          refine JL_dt rfl (det_loadKA rfl Try.isAgg108 Try.sizeOf108 rfl rfl) ?_
          refine JL_step rfl rfl rfl (jo_callv rfl rfl Try.call84 rfl (many_j x.1 hgb)) fun _ => ?_
          refine JL_pd rfl (det_geq rfl rfl) ?_
          refine JL_pd rfl (det_move rfl) ?_
          -- stop: guard 3
          by_cases hm : 0 ≤ manyG x.1
          · have ho : okG x.1 = canG x.1 := by unfold okG; rw [decide_eq_true hm]; rfl
            refine JL_is (d0 := 47) true rfl (by exact decide_eq_true hm) (fun g1 => ?_)
            refine JL_guard rfl rfl g1 ?_
            refine JL_dt rfl (det_loadKA rfl Try.isAgg108 Try.sizeOf108 rfl rfl) ?_
            refine JL_guard rfl rfl g1 ?_
            refine JL_step rfl rfl rfl (jo_callv rfl rfl Try.call85 rfl (can_j x.1 hgb)) fun _ => ?_
            refine JL_pd rfl (det_pick_t rfl g1 rfl) ?_
            refine JL_step0 rfl rfl (jo_store rfl rfl rfl (by first | (simp only [splice_norm]; done) | (simp only [splice_norm]; rfl) | rfl) Try.sizeOf4 rfl rfl) fun _ => ?_
            refine JL_nil ?_
            refine JE_seq ?_
            refine JC_seq ?_
            refine JC_region ?_
            refine JL_dt rfl (det_loadK rfl Try.isAgg4 rfl) ?_
            refine JL_pd rfl (det_not rfl) ?_
            refine JL_nil ?_
            refine JE_seq ?_
            -- stop: cond
            refine JC_cond rfl (fun h4 => ?_) (fun h4 => ?_)
            · simp only [Bool.not_eq_true'] at h4
              refine JC_exit ?_
              refine JE_block_on rfl ?_
              refine JE_then_exit ?_
              -- stop: out
              exact JE_leave (fun st' R' a' W' => hX (.exit 3) (.exit 3) (canG x.1) rfl ⟨rfl, h4, x, by simp, by rw [ho]; exact h4⟩ st' R' a' W') (hsub_cons hsub_nil)
            · simp only [Bool.not_eq_false'] at h4
              refine JC_skip ?_
              refine JE_block ?_
              -- stop: end
              refine JE_next (fun st' R' a' W' => hK1 (canG x.1) ⟨h4, fun z hz => ?_⟩ st' R' a' W') (hsub_cons hsub_nil)
              rcases List.mem_append.1 hz with hz | hz
              · exact hno z hz
              · rw [List.mem_singleton.1 hz, ho]; exact h4
          · have ho : okG x.1 = false := by unfold okG; rw [decide_eq_false hm]; rfl
            refine JL_is (d0 := 47) false rfl (by exact decide_eq_false hm) (fun g1 => ?_)
            refine JL_skip rfl rfl g1 rfl ?_
            refine JL_skip rfl rfl g1 rfl ?_
            refine JL_pd rfl (det_pick_f rfl g1 rfl) ?_
            refine JL_step0 rfl rfl (jo_store rfl rfl rfl (by first | (simp only [splice_norm]; done) | (simp only [splice_norm]; rfl) | rfl) Try.sizeOf4 rfl rfl) fun _ => ?_
            refine JL_nil ?_
            refine JE_seq ?_
            refine JC_seq ?_
            refine JC_region ?_
            refine JL_dt rfl (det_loadK rfl Try.isAgg4 rfl) ?_
            refine JL_pd rfl (det_not rfl) ?_
            refine JL_nil ?_
            refine JE_seq ?_
            -- stop: cond
            refine JC_cond rfl (fun h4 => ?_) (fun h4 => ?_)
            · refine JC_exit ?_
              refine JE_block_on rfl ?_
              refine JE_then_exit ?_
              -- stop: out
              exact JE_leave (fun st' R' a' W' => hX (.exit 3) (.exit 3) false rfl ⟨rfl, rfl, x, by simp, ho⟩ st' R' a' W') (hsub_cons hsub_nil)
            · cases h4
        · rintro v ⟨rfl, hno⟩
          have hfb : fitB ts = true := List.all_eq_true.2 hno
          have hfs : fitB (srtL l) = true := by rw [← hsame.1]; exact hfb
          have hE : readE l = 0 := by unfold readE; rw [if_neg (by omega), if_neg (by rw [h2]; decide), if_neg (by rw [hfs]; decide)]
          have hts2 : ts = srtL l := hsame.2 hfs
          refine JE_block ?_
          refine JE_seq ?_
          refine JC_seq ?_
          refine JC_seq ?_
          refine JC_region ?_
          refine JL_dt rfl (det_loadK rfl Try.isAgg4 rfl) ?_
          refine JL_pd rfl (det_not rfl) ?_
          refine JL_nil ?_
          refine JE_seq ?_
          -- stop: cond
          refine JC_cond rfl (fun h5 => ?_) (fun h5 => ?_)
          · cases h5
          refine JC_skip ?_
          refine JE_seq ?_
          refine JC_seq ?_
          refine JC_region ?_
          refine JL_pd rfl (det_move rfl) ?_
          refine JL_pd rfl (det_build rfl (bld_101_0 _ _ _)) ?_
          refine JL_step0 rfl rfl (jo_store rfl rfl rfl (by first | (simp only [splice_norm]; done) | (simp only [splice_norm]; rfl) | rfl) Try.sizeOf101 rfl rfl) fun _ => ?_
          refine JL_pd rfl (det_assign rfl) ?_
          refine JL_nil ?_
          refine JE_seq ?_
          refine JC_ret ?_
          refine JE_scope_ret ?_
          -- stop: out
          refine JE_out (.inl rfl) (ta, tc) (results2 Try.results58 (res_box rfl Try.isAgg101 Try.sizeOf101 rfl) (res_tmp rfl)) (by rw [if_pos hE, hts2]) (List.Perm.refl _) (fun w h _ => by rw [← hts2]; exact Knows.know (F := KSl ta ts.length tc encM ts) w h)
        · rintro cd p v hpx ⟨rfl, rfl, y, hy, ht⟩
          have hfb : fitB ts = false := List.all_eq_false.2 ⟨y, hpx.subset hy, by rw [ht]; decide⟩
          have hfs : fitB (srtL l) = false := by rw [← hsame.1]; exact hfb
          have hE : readE l = 9 := by unfold readE; rw [if_neg (by omega), if_neg (by rw [h2]; decide), if_pos hfs]
          refine JC_exit ?_
          refine JE_block_here ?_
          refine JE_seq ?_
          refine JC_seq ?_
          refine JC_seq ?_
          refine JC_region ?_
          refine JL_dt rfl (det_loadK rfl Try.isAgg4 rfl) ?_
          refine JL_pd rfl (det_not rfl) ?_
          refine JL_nil ?_
          refine JE_seq ?_
          -- stop: cond
          refine JC_cond rfl (fun h5 => ?_) (fun h5 => ?_)
          · refine JC_seq ?_
            refine JC_region ?_
            refine JL_pd rfl (det_build rfl (bld_101)) ?_
            refine JL_step0 rfl rfl (jo_store rfl rfl rfl (by first | (simp only [splice_norm]; done) | (simp only [splice_norm]; rfl) | rfl) Try.sizeOf101 rfl rfl) fun _ => ?_
            refine JL_pd rfl (det_assign rfl) ?_
            refine JL_nil ?_
            refine JE_seq ?_
            refine JC_ret ?_
            refine JE_seq_ret ?_
            refine JE_scope_ret ?_
            -- stop: out
            refine JE_out (.inl rfl) (none, 0) (results2 Try.results58 (res_box rfl Try.isAgg101 Try.sizeOf101 rfl) (res_tmp rfl)) (by rw [if_neg (by rw [hE]; decide), hE]) (List.Perm.refl _) (fun w h h0 => absurd h0 (by rw [hE]; decide))
          · cases h5
end Go.Proofs.Ytjbmkdbgobmclaa

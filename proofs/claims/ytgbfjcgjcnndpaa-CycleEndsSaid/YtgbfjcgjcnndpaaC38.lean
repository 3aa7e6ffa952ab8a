/- The statements about cycle: CycleLost. -/
import Derived.Test.YtgbfjcgjcnndpaaC37
import Derived.Test.YtgbfjcgjcnndpaaJ21
set_option linter.unusedSimpArgs false
set_option linter.unusedVariables false
namespace Go.Proofs.Ytgbfjcgjcnndpaa
open Go.RowKit Go.Shelf

theorem EndR.len {m : Mc} {log : List Int} {i k : Nat} {s : Sd} (h : EndR m log i k s) : i ≤ log.length := by
  induction h with
  | zero => exact Nat.zero_le _
  | log _ hg _ _ => have := (List.getElem?_eq_some_iff.1 hg).1; omega
  | lost _ _ ih => exact ih
theorem EndR.ext {m : Mc} {log : List Int} {x : Int} {i k : Nat} {s : Sd} (h : EndR m log i k s) : EndR m (log ++ [x]) i k s := by
  induction h with
  | zero => exact .zero
  | log _ hg ht ih => exact .log ih (by rw [List.getElem?_append_left (List.getElem?_eq_some_iff.1 hg).1]; exact hg) ht
  | lost _ hst ih => exact .lost ih hst
theorem Run.split {m : Mc} : ∀ {sg : List Int} {s u : Sd} {g : Int}, Run m s (sg ++ [g]) u → ∃ t, Run m s sg t ∧ u ∈ nextL m m.locks t g
  | [], s, u, g, h => by
    cases h with
    | cons h1 h2 => cases h2; exact ⟨_, .nil, h1⟩
  | x :: sg, s, u, g, h => by
    cases h with
    | cons h1 h2 =>
      obtain ⟨t, h3, h4⟩ := Run.split h2
      exact ⟨t, .cons h1 h3, h4⟩
/-- What is left of a run. -/
def LeftI (m : Mc) (sg log : List Int) (gone : Nat) : Prop := ∀ u, Run m ⟨0, 0⟩ sg u → EndR m log log.length gone u
theorem LeftI.zero (m : Mc) : LeftI m [] [] 0 := fun u h => by cases h; exact .zero
theorem LeftI.lost {m : Mc} {sg log : List Int} {gone : Nat} (h : LeftI m sg log gone) {g : Int} (hg : 0 ≤ g ∧ g ≤ 7) : LeftI m (sg ++ [g]) log (gone + 1) := fun u hu => by
  obtain ⟨t, h1, h2⟩ := hu.split
  exact .lost (h t h1) ⟨g.toNat, by omega, by rw [show ((g.toNat : Nat) : Int) = g by omega]; exact h2⟩
theorem LeftI.kept {m : Mc} {sg log : List Int} {gone : Nat} (h : LeftI m sg log gone) (g : Int) : LeftI m (sg ++ [g]) (log ++ [g]) gone := fun u hu => by
  obtain ⟨t, h1, h2⟩ := hu.split
  have := (h t h1).ext (x := g)
  rw [List.length_append, List.length_singleton]
  exact .log this (by rw [List.getElem?_append_right (Nat.le_refl _)]; simp) h2
theorem mem_ends {m : Mc} (V : Valid m) {log : List Int} {lost : Nat} {s : Sd} : s ∈ standsW (endsW m log lost) ↔ ∃ k, k ≤ lost ∧ EndR m log log.length k s := by
  rw [mem_standsW]
  constructor
  · rintro ⟨j, hj, h1, rfl⟩
    exact (endsW_iff V log lost j hj).1 h1
  · rintro ⟨k, h1, h2⟩
    have hin := (h2.inM V).ix V
    exact ⟨ix s, hin.1, (endsW_iff V log lost _ hin.1).2 ⟨k, h1, by rw [hin.2]; exact h2⟩, hin.2.symm⟩
theorem ends_pth {m : Mc} {goal : Sd → Bool} {k : Nat} {s : Sd} (h : EndR m [] 0 k s) : ∃ sg, Run m ⟨0, 0⟩ sg s ∧ okSg sg ∧ sg.length = k := by
  generalize hl : ([] : List Int) = log at h
  generalize h0 : 0 = i at h
  induction h with
  | zero => exact ⟨[], .nil, fun g hg => (by cases hg), rfl⟩
  | log _ hg _ _ => subst hl; simp at hg
  | lost _ hst ih =>
    obtain ⟨sg, h1, h2, h3⟩ := ih h0
    obtain ⟨g, hg, ht⟩ := hst
    exact ⟨sg ++ [(g : Int)], h1.snoc ht, fun x hx => by
      rcases List.mem_append.1 hx with hx | hx
      · exact h2 x hx
      · rw [List.mem_singleton.1 hx]; omega, by simp [h3]⟩
theorem run_ends {m : Mc} {sg : List Int} {s : Sd} (h : Run m ⟨0, 0⟩ sg s) (hs : okSg sg) : EndR m [] 0 sg.length s := by
  have key : ∀ (sg : List Int) (s t : Sd) (k : Nat), Run m s sg t → okSg sg → EndR m [] 0 k s → EndR m [] 0 (k + sg.length) t := by
    intro sg
    induction sg with
    | nil => intro s t k h _ h2; cases h; exact h2
    | cons g sg ih =>
      intro s t k h hs h2
      cases h with
      | cons h1 h3 =>
        have hb := hs g (by simp)
        have := ih _ _ (k + 1) h3 (fun x hx => hs x (by simp [hx])) (.lost h2 ⟨g.toNat, by omega, by rw [show ((g.toNat : Nat) : Int) = g by omega]; exact h1⟩)
        rw [List.length_cons, show k + (sg.length + 1) = k + 1 + sg.length by omega]
        exact this
  have := key sg _ _ 0 h hs .zero
  rwa [Nat.zero_add] at this
theorem near_ends {m : Mc} (V : Valid m) {s : Sd} (h : s ∈ reachL m m.locks) {w : List Int} (hw : wayO m m.locks (goalS s) = some w) (n : Nat) : decide (w.length ≤ n) = decide (s ∈ standsW (endsW m [] n)) := by
  rw [decide_eq_decide, mem_ends V]
  obtain ⟨h1, h2, h3⟩ := way_runs V hw
  constructor
  · intro hl; exact ⟨w.length, hl, run_ends h1 h2⟩
  · rintro ⟨k, hk, h4⟩
    obtain ⟨sg, q1, q2, q3⟩ := ends_pth (goal := goalS s) h4
    have := (wayO_yes V hw).dist.2 _ (q1.pth q2 (decide_eq_true rfl))
    omega
theorem ends_zero {m : Mc} (V : Valid m) : standsW (endsW m [] 0) = [⟨0, 0⟩] := by
  have hm : ∀ s, s ∈ standsW (endsW m [] 0) ↔ s = ⟨0, 0⟩ := fun s => by
    rw [mem_ends V]
    constructor
    · rintro ⟨k, hk, h⟩
      obtain rfl : k = 0 := by omega
      obtain ⟨sg, q1, _, q3⟩ := ends_pth (goal := goalS s) h
      obtain rfl := List.eq_nil_of_length_eq_zero q3
      cases q1; rfl
    · rintro rfl; exact ⟨0, Nat.le_refl _, .zero⟩
  have hnd : (standsW (endsW m [] 0)).Nodup := by
    rw [standsW_all]
    exact nodup_all.filter _
  cases hl : standsW (endsW m [] 0) with
  | nil => have := (hm ⟨0, 0⟩).2 rfl; rw [hl] at this; cases this
  | cons x r =>
    rw [hl] at hm hnd
    obtain rfl := (hm x).1 (by simp)
    cases r with
    | nil => rfl
    | cons y r =>
      obtain rfl := (hm y).1 (by simp)
      simp at hnd
/-- Ends, where some are. -/
theorem Ends_js (m : Mc) (a : MA) (lost : Nat) (sa : Option Addr) (sc : Nat) (log : List Int) (he : fault m = 0) (hl : log.length ≤ 20) (hlost : lost ≤ 5) (hlog : ∀ g ∈ log, 0 ≤ g ∧ g ≤ 7) (L : List Sd) (hL : standsW (endsW m log lost) = L) (hne : L ≠ []) :
    Cr Try.prog 34 [.agg #[I m.states, .slice a.sa m.steps.length a.sc, .slice a.ra m.running.length a.rc, .slice a.ka m.locks.length a.kc], .slice sa log.length sc, I lost] (KAnd (KMc m a) (KSl sa log.length sc encI log)) (fun q : Option Addr × Nat => .tuple #[.slice q.1 L.length q.2, I 0]) (fun q => KSl q.1 L.length q.2 encSd L) := by
  have h := Ends_jo m a lost sa sc log he hl hlost hlog
  rw [hL, if_neg hne] at h
  exact h
end Go.Proofs.Ytgbfjcgjcnndpaa

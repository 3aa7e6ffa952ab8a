/- Path: the states of a row as a list; Reach. -/
import Derived.Test.YtcfhbnfincpehaaX2
import Derived.Test.YtcfhbnfincpehaaPathK
namespace Go.Proofs.Ytcfhbnfincpehaa
open Go.RowKit Go.Shelf

theorem mem_doneS_iff {i : Nat} {t : St} : t ∈ doneS i 0 ↔ 1 ≤ t.b ∧ t.b ≤ i ∧ -5 ≤ t.d ∧ t.d ≤ 5 := by
  refine ⟨fun h => mem_doneS h rfl, ?_⟩
  simp only [doneS, List.range_zero, List.map_nil, List.append_nil, List.mem_flatMap, List.mem_range, List.mem_map]
  rintro ⟨h1, h2, h3, h4⟩
  refine ⟨(t.b - 1).toNat, by omega, (t.d + 5).toNat, by omega, ?_⟩
  exact St.ext'.2 ⟨by dsimp only; omega, by dsimp only; omega⟩
theorem doneS_bd (i j : Nat) : ∀ x ∈ doneS i j, x.b ≤ i ∨ x.b = 1 + i ∧ x.d < -5 + j := by
  intro x hx
  simp only [doneS, List.mem_append, List.mem_flatMap, List.mem_range, List.mem_map] at hx
  rcases hx with ⟨a, ha, b, hb, rfl⟩ | ⟨b, hb, rfl⟩ <;> dsimp only <;> omega
theorem doneS_sorted (i : Nat) : ∀ j, j ≤ 11 → (doneS i j).Pairwise (fun x y => lessS x y = true) := by
  have step : ∀ i j, (doneS i j).Pairwise (fun x y => lessS x y = true) → (doneS i (j + 1)).Pairwise (fun x y => lessS x y = true) := by
    intro i j h
    rw [doneS_dir, List.pairwise_append]
    refine ⟨h, List.pairwise_singleton _ _, fun x hx y hy => ?_⟩
    rw [List.mem_singleton.1 hy]
    have := doneS_bd i j x hx
    simp only [lessS, decide_eq_true_eq]
    omega
  induction i with
  | zero =>
    intro j
    induction j with
    | zero => intro _; exact .nil
    | succ j ih => intro h; exact step 0 j (ih (by omega))
  | succ i ih =>
    intro j
    induction j with
    | zero => intro _; rw [← doneS_row]; exact ih 11 (Nat.le_refl _)
    | succ j ih2 => intro h; exact step (i + 1) j (ih2 (by omega))
/-- The states of a row, in order. -/
def rowL (l : La) (s0 : St) : Nat → List St
  | 0 => [s0]
  | k + 1 => (doneS l.boards.toNat 0).filter fun t => (rowL l s0 k).any fun s => (stepsOf l k s).contains t
theorem rowL_sorted (l : La) (s0 : St) (k : Nat) : (rowL l s0 k).Pairwise (fun x y => lessS x y = true) := by
  cases k with
  | zero => exact List.pairwise_singleton _ _
  | succ k => exact (doneS_sorted _ 0 (by omega)).filter _
theorem mem_rowL {l : La} {s0 : St} (V : Valid l) (h0 : isStart l s0 = true) : ∀ {k : Nat} {t : St}, t ∈ rowL l s0 k ↔ Rch l s0 k t := by
  intro k
  induction k with
  | zero => intro t; simp [rowL, Rch]
  | succ k ih =>
    intro t
    have hb := V.b1
    simp only [rowL, List.mem_filter, List.any_eq_true, Rch, List.contains_iff_mem, mem_doneS_iff]
    constructor
    · rintro ⟨h1, s, h2, h3⟩
      refine ⟨?_, s, ih.1 h2, h3⟩
      simp only [onL, decide_eq_true_eq]
      omega
    · rintro ⟨h1, s, h2, h3⟩
      have hd : -5 ≤ t.d ∧ t.d ≤ 5 := by
        obtain ⟨u, _, rfl⟩ := List.mem_map.1 h3
        exact nextS_d _ _
      simp only [onL, decide_eq_true_eq] at h1
      exact ⟨by omega, s, ih.2 h2, h3⟩
/-- From the row k it can go into the gutter. -/
def gutB (l : La) (s0 : St) (k : Nat) : Bool := (rowL l s0 k).any fun s => (stepsOf l k s).any fun t => !onL l t
theorem gutB_iff {l : La} {s0 : St} (V : Valid l) (h0 : isStart l s0 = true) {k : Nat} : gutB l s0 k = true ↔ Gut l s0 k := by
  simp [gutB, Gut, mem_rowL V h0]
/-- Whether it is in the gutter by a row. -/
def rowV (l : La) (s0 : St) (k : Nat) : Int := if rowL l s0 k = [] then 2 else if (List.range k).any (gutB l s0) then 1 else 0
theorem less_irrefl {s t : St} (h1 : lessS s t = true) (h2 : lessS t s = true) : False := by
  simp only [lessS, decide_eq_true_eq] at h1 h2; omega
theorem sorted_eq {a b : List St} (h1 : a.Pairwise (fun x y => lessS x y = true)) (h2 : b.Pairwise (fun x y => lessS x y = true)) (h : ∀ t, t ∈ a ↔ t ∈ b) : a = b := by
  have n1 : a.Nodup := h1.imp fun {x y} h (e : x = y) => by subst e; exact less_irrefl h h
  have n2 : b.Nodup := h2.imp fun {x y} h (e : x = y) => by subst e; exact less_irrefl h h
  exact ((List.perm_ext_iff_of_nodup n1 n2).2 h).eq_of_pairwise (fun x y _ _ h1 h2 => (less_irrefl h1 h2).elim) h1 h2
theorem RowVerdict.is {l : La} {s : St} {k : Nat} {ts : List St} {v : Int} (V : Valid l) (h0 : isStart l s = true) (h : RowVerdict l s k ts v) : ts = rowL l s k ∧ v = rowV l s k := by
  have e : ts = rowL l s k := sorted_eq h.sorted (rowL_sorted _ _ _) fun t => (h.mem t).trans (mem_rowL V h0).symm
  refine ⟨e, ?_⟩
  unfold rowV
  have hg : (List.range k).any (gutB l s) = true ↔ ∃ j, j < k ∧ Gut l s j := by simp [List.any_eq_true, gutB_iff V h0]
  rw [← e]
  by_cases h1 : ts = []
  · rw [if_pos h1]; exact h.sure h1
  · rw [if_neg h1]
    by_cases h2 : ∃ j, j < k ∧ Gut l s j
    · rw [if_pos (hg.2 h2)]; exact h.may h1 h2
    · rw [if_neg (fun e => h2 (hg.1 e))]; exact h.never h1 h2
theorem rowL_len (l : La) (s : St) (k : Nat) (V : Valid l) : (rowL l s k).length ≤ 1000 := by
  have := V.b2
  cases k with
  | zero => simp [rowL]
  | succ k =>
    refine Nat.le_trans (List.length_filter_le _ _) ?_
    rw [doneS_len]; omega

theorem Reach_je (l : La) (s : St) (row : Int) (ha pa : Option Addr) (hc pc : Nat) (he : startErr l s ≠ 0) : Cv Try.prog 18 [.agg #[I l.boards, I l.rows, .slice ha l.hooks.length hc, .slice pa l.patches.length pc], .agg #[I s.b, I s.d], I row] (KLane l ha hc pa pc) (.tuple #[.slice none 0 0, .int .u8 0, I (startErr l s)]) :=
  Cv_of fun w h => Reach_err l s row ha pa hc pc w h.at_ he
theorem Reach_jr (l : La) (s : St) (row : Int) (ha pa : Option Addr) (hc pc : Nat) (he : startErr l s = 0) (hr : ¬ (0 ≤ row ∧ row ≤ l.rows - 1)) : Cv Try.prog 18 [.agg #[I l.boards, I l.rows, .slice ha l.hooks.length hc, .slice pa l.patches.length pc], .agg #[I s.b, I s.d], I row] (KLane l ha hc pa pc) (.tuple #[.slice none 0 0, .int .u8 0, I 2]) :=
  Cv_of fun w h => Reach_row l s row ha pa hc pc w h.at_ he hr
theorem KSl_new {α : Type} {enc : α → List Value} {xs : List α} {a : Option Addr} {n cap B : Nat} {w w2 : World} (h : SlAt w a n cap (xs.flatMap enc)) (hn : n = xs.length) (hN : NewSl B (.slice a n cap)) (hz : w.heap.size ≤ w2.heap.size) (he : ∀ b, B ≤ b → b < w.heap.size → w2.heap[b]? = w.heap[b]?) :
    KSl a n cap enc xs w2 := by
  refine ⟨⟨h.1, h.2.1, h.2.2.1, fun hne => ?_⟩, hn⟩
  obtain ⟨b, o, rfl, hb, hc⟩ := h.2.2.2 hne
  refine ⟨b, o, rfl, by omega, fun i c hi => ?_⟩
  rw [← hc i c hi]
  unfold World.cell?
  dsimp only
  rw [he b (hN _ _ _ rfl) hb]
theorem Reach_jo (l : La) (s : St) (row : Nat) (ha pa : Option Addr) (hc pc : Nat) (he : startErr l s = 0) (hr : (row : Int) < l.rows) : Cr Try.prog 18 [.agg #[I l.boards, I l.rows, .slice ha l.hooks.length hc, .slice pa l.patches.length pc], .agg #[I s.b, I s.d], I row] (KLane l ha hc pa pc)
    (fun q : Option Addr × Nat => .tuple #[.slice q.1 (rowL l s row).length q.2, .int .u8 (rowV l s row), I 0]) (fun q => KSl q.1 (rowL l s row).length q.2 encSt (rowL l s row)) :=
  Cr_of fun w h => (Reach_ok l s row ha pa hc pc w h.at_ he hr).mono fun e w' ⟨ts, u, v, h1, ⟨a, cap, h2, h3⟩, h4, h5, hb⟩ => by
    obtain ⟨V, h0⟩ := valid_start he
    obtain ⟨rfl, rfl⟩ := h4.is V h0
    subst h2
    exact ⟨(a, cap), h1, hb, fun w2 _ hz hn => KSl_new h3 rfl h5 hz hn⟩
end Go.Proofs.Ytcfhbnfincpehaa

/- The statements about lend: LendWhole (plain). -/
import Derived.Test.YtkmaafnbefpdjaaE37
set_option linter.unusedSimpArgs false
set_option linter.unusedVariables false
namespace Go.Proofs.Ytkmaafnbefpdjaa
open Go.RowKit Go.Shelf

theorem countP_range (k : Nat) : ∀ n : Nat, (List.range n).countP (fun i => decide (i < k)) = min n k
  | 0 => by simp
  | n + 1 => by
    rw [List.range_succ, List.countP_append, countP_range k n, List.countP_singleton]
    by_cases h : n < k
    · rw [if_pos (by simpa using h)]; omega
    · rw [if_neg (by simpa using h)]; omega
theorem srvN_full (k : Nat) {l : List Gr} (hV : ∀ g ∈ l, VGr g) : ((min l.length k : Nat) : Int) ≤ srvN k l := by
  obtain ⟨q, hq⟩ : ∃ q : List Int, q = (List.range l.length).map fun i : Nat => if i < k then (i : Int) else -1 := ⟨_, rfl⟩
  have hl : q.length = l.length := by rw [hq]; simp
  have hqi : ∀ i (h : i < q.length), q[i] = if i < k then (i : Int) else -1 := fun i h => by subst hq; simp
  have := srvN_ge (k := k) (q := q) hV hl (fun n hn => by
    obtain ⟨i, hi, rfl⟩ := List.mem_iff_getElem.1 hn
    rw [hqi i hi]; split <;> omega) (by
    unfold RightZ
    rw [List.pairwise_iff_getElem]
    intro a b ha hb hab
    simp only [List.getElem_zip]
    rw [List.length_zip] at ha hb
    intro hc
    obtain ⟨c1, c2, -⟩ := hc
    simp only at c1 c2
    rw [hqi a (by omega)] at c1 c2
    rw [hqi b (by omega)] at c2
    split at c2
    · split at c2 <;> omega
    · rename_i e; rw [if_neg e] at c1; omega)
  have hs : served q = min l.length k := by
    rw [← countP_range k l.length, hq]
    unfold served
    rw [List.countP_map]
    congr 1
    funext i
    show decide (0 ≤ if i < k then (i : Int) else -1) = decide (i < k)
    by_cases h : i < k
    · rw [if_pos h, decide_eq_true h]; exact decide_eq_true (by omega)
    · rw [if_neg h, decide_eq_false h]; exact decide_eq_false (by omega)
  rw [hs] at this
  exact this
theorem sumC_pos {c : Int → Bool} {v : Int → Int} : ∀ {n : Nat}, (∀ s : Nat, s < n → 0 ≤ v s) → 0 ≤ sumC c v n ∧ ∀ s : Nat, s < n → c s = true → v s ≤ sumC c v n
  | 0, _ => ⟨Int.le_refl _, fun s h => absurd h (Nat.not_lt_zero s)⟩
  | n + 1, h => by
    obtain ⟨h1, h2⟩ := sumC_pos (c := c) (v := v) (n := n) fun s hs => h s (by omega)
    have hn := h n (by omega)
    have e : sumC c v (n + 1) = sumC c v n + if c n = true then v n else 0 := rfl
    refine ⟨by rw [e]; split <;> omega, fun s hs hc => ?_⟩
    rw [e]
    by_cases es : s = n
    · subst es; rw [if_pos hc]; omega
    · have := h2 s (by omega) hc
      split <;> omega
/-- With as many pairs of each size as feet. -/
theorem lack_full {M : Int} {feet : List Int} (hf : ∀ f ∈ feet, 0 ≤ f ∧ f ≤ 9) (hM : (feet.length : Int) ≤ M) (S : List Int) : lack (List.replicate 10 M) feet S = 0 := by
  have hs : ∀ s : Nat, s < 10 → shoe (List.replicate 10 M) s = M := fun s h => by
    rw [shoe_get (by simpa using h)]; exact List.getElem_replicate _
  have hp := sumC_pos (c := nbr S) (v := shoe (List.replicate 10 M)) (n := 10) fun s h => by rw [hs s h]; omega
  have hc : feet.countP (fun f => decide (f ∈ S)) ≤ feet.length := List.countP_le_length
  unfold lack lackI
  by_cases h0 : feet.countP (fun f => decide (f ∈ S)) = 0
  · rw [h0]; have := hp.1; omega
  · obtain ⟨f, hff, hfS⟩ := List.countP_pos_iff.1 (Nat.pos_of_ne_zero h0)
    have h9 := hf f hff
    have h2 := hp.2 f.toNat (by omega) (by
      rw [show ((f.toNat : Nat) : Int) = f by omega]
      unfold nbr
      exact decide_eq_true (.inl (of_decide_eq_true hfS)))
    rw [hs _ (by omega)] at h2
    omega
theorem barN_full {M : Int} {feet : List Int} (hf : ∀ f ∈ feet, 0 ≤ f ∧ f ≤ 9) (hM : (feet.length : Int) ≤ M) : barN (List.replicate 10 M) feet = 0 := by
  unfold barN
  generalize 1024 = n
  induction n with
  | zero => rfl
  | succ n ih => unfold lacksV; rw [ih, lack_full hf hM]; rfl
/-- All feet. -/
def feetL (l : List Gr) : List Int := l.flatMap (·.feet)
theorem feetA_le (t : Int) : ∀ (l : List Gr) (p : List Int), (feetA (l.zip p) t).length ≤ (feetL l).length
  | [], _ => by simp [feetA]
  | g :: l, [] => by simp [feetA]
  | g :: l, n :: p => by
    have := feetA_le t l p
    unfold feetA feetL at this ⊢
    rw [List.zip_cons_cons, List.flatMap_cons, List.flatMap_cons, List.length_append, List.length_append]
    split
    · simp only; omega
    · rw [List.length_nil]; omega
theorem shV_full {M : Int} {l : List Gr} {p : List Int} (hV : ∀ g ∈ l, VGr g) (hM : ((feetL l).length : Int) ≤ M) : ∀ n : Nat, shV (List.replicate 10 M) (l.zip p) n = []
  | 0 => rfl
  | n + 1 => by
    rw [shV_no, shV_full hV hM n]
    unfold shB
    have hl := feetA_le (n : Int) l p
    have := barN_full (M := M) (feet := feetA (l.zip p) n) (fun f hf => by
      obtain ⟨z, hz, hzf⟩ := feetA_mem hf
      exact (hV _ (List.of_mem_zip hz).1).ft f hzf) (by omega)
    unfold barN at this
    rw [this]; rfl
/-- How many feet there are, as the machine counts. -/
def sumW (l : List Gr) : Int := l.foldl (fun a g => IntKind.i64.wrap (a + (g.feet.length : Int))) 0
theorem sumW_go : ∀ (l : List Gr) (a : Int), (∀ g ∈ l, g.feet.length ≤ 6) → 0 ≤ a → a + 6 * (l.length : Int) ≤ 1000000 → l.foldl (fun a g => IntKind.i64.wrap (a + (g.feet.length : Int))) a = a + ((feetL l).length : Int)
  | [], a, _, _, _ => by simp [feetL]
  | g :: l, a, h, h0, h1 => by
    have hg := h g (List.mem_cons_self ..)
    rw [List.length_cons] at h1
    rw [List.foldl_cons, i64_wrap ⟨by omega, by omega⟩, sumW_go l (a + (g.feet.length : Int)) (fun y hy => h y (List.mem_cons_of_mem _ hy)) (by omega) (by omega)]
    unfold feetL
    rw [List.flatMap_cons, List.length_append]
    omega
theorem sumW_eq {l : List Gr} (h : ∀ g ∈ l, g.feet.length ≤ 6) (hl : l.length ≤ 100) : sumW l = ((feetL l).length : Int) := by
  unfold sumW
  rw [sumW_go l 0 h (Int.le_refl _) (by omega), Int.zero_add]
end Go.Proofs.Ytkmaafnbefpdjaa

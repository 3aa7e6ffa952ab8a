/- The walk of PathRows. -/
import Derived.Test.YtcfhbnfincpehaaX5
namespace Go.Proofs.Ytcfhbnfincpehaa
open Go.RowKit Go.Shelf

theorem ready_of {l : La} {s : St} (h : (!(thin l && decide (startErr l s = 0))) = false) : thin l = true ∧ startErr l s = 0 := by
  simpa using h
/-- What stands in the next row, by the statement. -/
def nextL (l : La) (k : Int) (xs : List St) : List St := xs.flatMap fun a => (stepsOf l k a).filter (onL l)
def fellB (l : La) (k : Int) (xs : List St) : Bool := xs.any fun a => (stepsOf l k a).any fun t => !onL l t
theorem nextL_snoc (l : La) (k : Int) (xs : List St) (a : St) : nextL l k (xs ++ [a]) = nextL l k xs ++ (stepsOf l k a).filter (onL l) := by simp [nextL]
theorem fellB_snoc (l : La) (k : Int) (xs : List St) (a : St) : fellB l k (xs ++ [a]) = (fellB l k xs || (stepsOf l k a).any fun t => !onL l t) := by simp [fellB]
theorem steps_len {l : La} (V : Valid l) (k : Int) (a : St) : (stepsOf l k a).length ≤ 7 ∧ 1 ≤ (stepsOf l k a).length := by
  have := hookOf_bd V k a.b
  simp only [stepsOf, List.length_map, turnsOf_len]
  omega
theorem steps_get {l : La} (k : Int) (a : St) (j : Nat) (h : j < (stepsOf l k a).length) : (stepsOf l k a)[j] = nextS a ((hookOf l k a.b).lo + j) := by
  simp [stepsOf, turnsOf_get]
theorem every_next {l : La} {s0 : St} (V : Valid l) (h0 : isStart l s0 = true) (k : Nat) : everyB (nextL l k (rowL l s0 k)) (rowL l s0 (k + 1)) = true := by
  simp only [everyB, List.all_eq_true, decide_eq_true_eq, nextL, List.mem_flatMap, List.mem_filter]
  rintro x ⟨a, ha, hx, hon⟩
  exact (mem_rowL V h0).2 ⟨hon, a, (mem_rowL V h0).1 ha, hx⟩
theorem every_back {l : La} {s0 : St} (V : Valid l) (h0 : isStart l s0 = true) (k : Nat) : everyB (rowL l s0 (k + 1)) (nextL l k (rowL l s0 k)) = true := by
  simp only [everyB, List.all_eq_true, decide_eq_true_eq, nextL, List.mem_flatMap, List.mem_filter]
  intro x hx
  obtain ⟨hon, a, ha, hs⟩ := (mem_rowL V h0).1 hx
  exact ⟨a, (mem_rowL V h0).2 ha, hs, hon⟩
theorem rowV_two {l : La} {s0 : St} (k : Nat) : rowV l s0 k = 2 ↔ (rowL l s0 k).length = 0 := by
  unfold rowV
  by_cases h : rowL l s0 k = []
  · simp [h]
  · rw [if_neg h]
    have : (rowL l s0 k).length ≠ 0 := fun e => h (List.eq_nil_of_length_eq_zero e)
    split <;> simp [this]
theorem rowV_next {l : La} {s0 : St} (V : Valid l) (h0 : isStart l s0 = true) (k : Nat) : rowV l s0 (k + 1) = 0 ↔ rowV l s0 k = 0 ∧ fellB l k (rowL l s0 k) = false := by
  have hz : ∀ k, rowV l s0 k = 0 ↔ rowL l s0 k ≠ [] ∧ (List.range k).any (gutB l s0) = false := by
    intro k
    unfold rowV
    by_cases h : rowL l s0 k = []
    · simp [h]
    · rw [if_neg h]
      cases (List.range k).any (gutB l s0) <;> simp [h]
  rw [hz, hz, List.range_succ, List.any_append]
  have hg : gutB l s0 k = fellB l k (rowL l s0 k) := rfl
  simp only [List.any_cons, List.any_nil, Bool.or_false, Bool.or_eq_false_iff, hg]
  constructor
  · rintro ⟨h1, h2, h3⟩
    refine ⟨⟨fun e => h1 ?_, h2⟩, h3⟩
    cases hn : rowL l s0 (k + 1) with
    | nil => rfl
    | cons t _ =>
      obtain ⟨_, a, ha, _⟩ := (mem_rowL V h0).1 (show t ∈ rowL l s0 (k + 1) by rw [hn]; simp)
      rw [← mem_rowL V h0, e] at ha
      cases ha
  · rintro ⟨⟨h1, h2⟩, h3⟩
    refine ⟨fun e => ?_, h2, h3⟩
    obtain ⟨a, ha⟩ := List.exists_mem_of_ne_nil _ h1
    have hl := (steps_len V k a).2
    have hm : (stepsOf l k a)[0] ∈ stepsOf l k a := List.getElem_mem _
    have hon : onL l (stepsOf l k a)[0] = true := by
      cases hc : onL l (stepsOf l k a)[0]
      · exfalso
        have : fellB l k (rowL l s0 k) = true := by
          simp only [fellB, List.any_eq_true]
          exact ⟨a, ha, _, hm, by simp [hc]⟩
        rw [this] at h3; cases h3
      · rfl
    have := (mem_rowL (k := k + 1) V h0).2 ⟨hon, a, (mem_rowL V h0).1 ha, hm⟩
    rw [e] at this; cases this
end Go.Proofs.Ytcfhbnfincpehaa

/- Plain words taken together for CycleOthers (as in C40, C41 and C42, which are not imported beside this text). -/
import Derived.Test.YtgbfjcgjcnndpaaC32
import Derived.Test.YtgbfjcgjcnndpaaB9
import Derived.Test.YtgbfjcgjcnndpaaJ25
set_option linter.unusedSimpArgs false
set_option linter.unusedVariables false
namespace Go.Proofs.Ytgbfjcgjcnndpaa
open Go.RowKit Go.Shelf

structure FaultOk (m : Mc) : Prop where
  ns : m.steps.length ≤ 24
  nl : m.locks.length ≤ 40
  s : 1 ≤ m.states ∧ m.states ≤ 8
  st : ∀ x ∈ m.steps, okStep m x = true
  run : ∀ n ∈ m.running, 0 ≤ n ∧ n ≤ m.states - 1
  lk : ∀ l ∈ m.locks, okLock m l = true
  up : rising m.running = true
theorem fault_iff {m : Mc} : fault m = 0 ↔ FaultOk m := by
  constructor
  · intro h
    unfold fault at h
    split at h
    · omega
    split at h
    · rename_i h1 h2
      simp only [Bool.and_eq_true, inI, decide_eq_true_eq, List.all_eq_true] at h2
      obtain ⟨⟨⟨⟨a, b⟩, c⟩, d⟩, e⟩ := h2
      exact ⟨by omega, by omega, a, b, c, d, e⟩
    · omega
  · rintro ⟨a, b, c, d, e, f, g⟩
    unfold fault
    rw [if_neg (by omega), if_pos]
    simp only [Bool.and_eq_true, inI, decide_eq_true_eq, List.all_eq_true]
    exact ⟨⟨⟨⟨c, d⟩, e⟩, f⟩, g⟩
theorem ht_owS {H H' L D : List Chunk} {v v' : Value} {T z n n' : Nat} {xs xs' : List Value} [h : OwnAt H v T z n xs H'] (ev : v = v') (e : n = n') (e' : xs = xs') (h2 : HTake H' L D) : HTake H (ow v' T z n' xs' :: L) D := by
  subst ev; exact ht_ow e e' h2
/-- Locks serve: of what can be without any, all that is no danger still can be, and nothing else. -/
def serveB (m : Mc) (ls : List Lk) : Bool := (reachL m []).all fun s => !(decide (decide (s ∈ reachL m ls) = dangerB m s))
theorem serve_iff {m : Mc} (V : Valid m) {ls : List Lk} : serveB m ls = true ↔ ∀ s, Rch m [] s → (Rch m ls s ↔ dangerB m s = false) := by
  unfold serveB
  rw [List.all_eq_true]
  constructor
  · intro h s hs
    have h1 := h s ((mem_reachL V).2 hs)
    rw [← mem_reachL V (ls := ls)]
    by_cases hm : s ∈ reachL m ls <;> cases hd : dangerB m s <;> simp_all
  · intro h s hs
    have h1 := h s ((mem_reachL V).1 hs)
    rw [← mem_reachL V (ls := ls)] at h1
    by_cases hm : s ∈ reachL m ls <;> cases hd : dangerB m s <;> simp_all
theorem rch_sub {m : Mc} {A B : List Lk} (h : ∀ l ∈ B, l ∈ A) {s : Sd} (hs : Rch m A s) : Rch m B s := by
  induction hs with
  | zero => exact .zero
  | step _ hst ih =>
    obtain ⟨g, hg, ht⟩ := hst
    refine .step ih ⟨g, hg, ?_⟩
    unfold nextL at ht ⊢
    split at ht
    · cases ht
    · rename_i hno
      rw [if_neg fun hm => hno (h _ hm)]
      exact ht
theorem rch_free {m : Mc} {A : List Lk} {s : Sd} (hs : Rch m A s) : Rch m [] s := rch_sub (fun _ h => by cases h) hs
theorem danger_zero (m : Mc) : dangerB m ⟨0, 0⟩ = false := by simp [dangerB]
/-- All locks that are needed are in each list that serves. -/
theorem need_all {m : Mc} (V : Valid m) {ls : List Lk} (h : serveB m ls = true) {l : Lk} (hl : needB m l = true) : l ∈ ls := by
  have hs := (serve_iff V).1 h
  obtain ⟨s, h1, g, hg, h3, h4, t, h5, h6⟩ := needB_iff.1 hl
  have r1 := (mem_reachL V).1 h1
  have r2 := (hs s r1).2 h3
  apply Classical.byContradiction
  intro hno
  have r3 : Rch m ls t := .step r2 ⟨g, hg, by unfold nextL; rw [h4, if_neg hno]; exact h5⟩
  have := (hs t (rch_free r3)).1 r3
  rw [h6] at this; cases this
/-- With all needed locks no danger can be. -/
theorem due_safe {m : Mc} (V : Valid m) {D : List Lk} (hD : ∀ l, needB m l = true → l ∈ D) {s : Sd} (hs : Rch m D s) : dangerB m s = false := by
  induction hs with
  | zero => exact danger_zero m
  | @step s t hs hst ih =>
    obtain ⟨g, hg, ht⟩ := hst
    unfold nextL at ht
    split at ht
    · cases ht
    · rename_i hno
      cases hd : dangerB m t with
      | false => rfl
      | true => exact absurd (hD _ (needB_iff.2 ⟨s, (mem_reachL V).2 (rch_free hs), g, hg, ih, rfl, t, ht, hd⟩)) hno
theorem due_serves {m : Mc} (V : Valid m) {D : List Lk} (hD : ∀ l, l ∈ D ↔ needB m l = true) {ls : List Lk} (h : serveB m ls = true) : serveB m D = true :=
  (serve_iff V).2 fun s hs => ⟨due_safe V fun l hl => (hD l).2 hl, fun hd => rch_sub (fun l hl => need_all V h ((hD l).1 hl)) (((serve_iff V).1 h s hs).2 hd)⟩
theorem same_serve {m : Mc} (V : Valid m) {D : List Lk} : sameW (rchW m D) (dueW m) = serveB m D := by
  rw [Bool.eq_iff_iff, sameW_iff, serve_iff V]
  have key : ∀ s, (decide (s ∈ reachL m D) = (decide (s ∈ reachL m []) && !dangerB m s)) ↔ (Rch m D s ↔ Rch m [] s ∧ dangerB m s = false) := fun s => by
    rw [← mem_reachL V (ls := D), ← mem_reachL V (ls := []), Bool.eq_iff_iff]
    simp
  constructor
  · intro h s hs
    obtain ⟨h1, h2⟩ := (hs.inM V).ix V
    have := h (ix s) h1
    unfold rchW dueW at this
    rw [h2] at this
    have := (key s).1 this
    exact ⟨fun h => (this.1 h).2, fun h => this.2 ⟨hs, h⟩⟩
  · intro h j hj
    unfold rchW dueW
    exact (key _).2 ⟨fun hr => ⟨rch_free hr, (h _ (rch_free hr)).1 hr⟩, fun hr => (h _ hr.1).2 hr.2⟩
end Go.Proofs.Ytgbfjcgjcnndpaa

/- The walk of package path: ahead, sorted. -/
import Derived.Test.YtcfhbnfincpehaaPathG
import Derived.Test.YtcfhbnfincpehaaShelf
import Derived.Shelf.SlSortCmp.NoneTotal
namespace Go.Proofs.Ytcfhbnfincpehaa
open Go.RowKit Go.Shelf Go.Proofs Go.Lib Go.Sort

def orOf (x y : Int) : Int := if x = 0 then y else x
theorem Or_two (x y : Int) (b : Nat) (w : World) (h0 : w.cell? ⟨b, 0, none⟩ = some (I x)) (h1 : w.cell? ⟨b, 1, none⟩ = some (I y)) :
    Calls Try.prog 100 #[.slice (some ⟨b, 0, none⟩) 2 2] w fun e w' => e = .returned (I (orOf x y)) ∧ w = w' := by
  go_enter Try.func100, Try.ntmps100
  go_wp2
  go_loop [8] (fun i => i = I 0 ∨ (i = I 1 ∧ Hid (x = 0)) ∨ (i = I 2 ∧ Hid (x = 0 ∧ y = 0))) (fun i => 2 - (intOf i).toNat)
  case atStart => exact .inl rfl
  case round =>
    rcases hrel with rfl | ⟨rfl, hz⟩ | ⟨rfl, hz⟩
    · by_cases hx : x = 0
      · go_wp2
        go_round
        case rel => exact .inr (.inl ⟨by go_num, hx⟩)
        case measure => simp [intOf]
      · go_wp2
        go_ret
        exact ⟨by simp [orOf, hx], rfl⟩
    · by_cases hx : y = 0
      · go_wp2
        go_round
        case rel => exact .inr (.inr ⟨by go_num, hz.out, hx⟩)
        case measure => simp [intOf]
      · go_wp2
        go_ret
        exact ⟨by simp [orOf, hz.out], rfl⟩
    · go_wp2
      go_ret
      have h := hz.out
      exact ⟨by simp [orOf, h.1, h.2], rfl⟩

/-- The world has grown alone. -/
def Grown (W w' : World) : Prop := ∃ q os, w' = grow (W.drewN q) os
theorem Grown.refl (W : World) : Grown W W := ⟨0, #[], by simp [World.drewN]⟩
theorem Grown.alloc {W w : World} (h : Grown W w) (o : Obj) : Grown W (w.alloc o) := by
  obtain ⟨q, os, rfl⟩ := h
  exact ⟨q, os ++ #[o], by rw [alloc_eq_grow, grow_grow]⟩
theorem Grown.drew {W w : World} (h : Grown W w) : Grown W w.drew := by
  obtain ⟨q, os, rfl⟩ := h
  exact ⟨q + 1, os, rfl⟩

/-- The difference by which states are sorted. -/
def aheadOf (s t : St) : Int := orOf (s.b - t.b) (s.d - t.d)
theorem ahead_any (s t : St) (w : World) (h1 : -1000 ≤ s.b ∧ s.b ≤ 1000 ∧ -5 ≤ s.d ∧ s.d ≤ 5) (h2 : -1000 ≤ t.b ∧ t.b ≤ 1000 ∧ -5 ≤ t.d ∧ t.d ≤ 5) :
    Calls Try.prog 87 #[.agg #[I s.b, I s.d], .agg #[I t.b, I t.d]] w fun e w' => e = .returned (I (aheadOf s t)) ∧ Grown w w' := by
  go_enter Try.func87, Try.ntmps87
  go_wp2_with (go_at_call 100; refine Calls.mono (Or_two (s.b - t.b) (s.d - t.d) _ _ (by simp [go_sem]) (by simp [go_sem])) ?_; rintro e w' ⟨rfl, rfl⟩)
  go_ret
  exact ⟨rfl, (((Grown.refl w).alloc _).alloc _).alloc _⟩
end Go.Proofs.Ytcfhbnfincpehaa

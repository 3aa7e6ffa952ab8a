/- The walks of package path: CheckLane, least, greatest, next. -/
import Derived.Test.YtcfhbnfincpehaaPathA
namespace Go.Proofs.Ytcfhbnfincpehaa
open Go.RowKit Go.Shelf

set_option maxHeartbeats 800000 in
theorem CheckLane_any (l : La) (ha pa : Option Addr) (hc pc : Nat) (w : World) (H : LaneAt w l ha hc pa pc) :
    Calls Try.prog 41 #[.agg #[I l.boards, I l.rows, .slice ha l.hooks.length hc, .slice pa l.patches.length pc]] w fun e w' => e = .returned (I (fault l)) ∧ Below w.heap.size w w' := by
  have H2 := Lib.hid H
  clear H
  by_cases g1 : 8 < l.patches.length ∨ 4 < l.hooks.length ∨ ¬ (1 ≤ l.boards ∧ l.boards ≤ 40) ∨ ¬ (1 ≤ l.rows ∧ l.rows ≤ 12) ∨ l.hooks.length = 0
  · by_cases g2 : l.hooks.length = 0
    all_goals
      have e0 : ((l.hooks.length : Int) == 0) = decide (l.hooks.length = 0) := by rw [Bool.eq_iff_iff]; simp
      simp only [g2, decide_true, decide_false] at e0
      go_enter Try.func41, Try.ntmps41
      go_wp2_with (first | (go_at_call 57; refine Calls.mono (within_any _ _ _ _) ?_; rintro e w' ⟨rfl, rfl⟩) | fail)
      all_goals (first | (exfalso; omega) | (go_ret; refine ⟨ret_int ?_, by (repeat (first | assumption | exact Below.refl _ _ | refine Below.alloc ?_ (by first | omega | (simp only [World.size_alloc]; omega) | (simp; done)) _ | refine Below.trans ?_ (Below.mono (by assumption) (by first | omega | (simp only [World.size_alloc]; omega) | (simp; done)))))⟩; unfold fault; split <;> first | rfl | omega | (split <;> first | rfl | omega)))
  · have e0 : ((l.hooks.length : Int) == 0) = false := by simp; intro e; apply g1; simp [e]
    have p1 : l.patches.length ≤ 8 := by omega
    have p2 : l.hooks.length ≤ 4 := by omega
    have p3 : 1 ≤ l.boards := by omega
    have p4 : l.boards ≤ 40 := by omega
    have p5 : 1 ≤ l.rows := by omega
    have p6 : l.rows ≤ 12 := by omega
    have p7 : 0 < l.hooks.length := by omega
    clear g1
    have hF : Hid (fault l = if l.hooks.all (fun h => okRg h (-3) 3) = false then 1 else if l.patches.all (okPa l) = false then 1 else 0) := by
      show fault l = _
      unfold fault; rw [if_neg (by omega), if_neg (by omega)]
    have hA1 : ∀ W : World, Below w.heap.size w W → Calls Try.prog 76 #[.slice ha l.hooks.length hc, .func (.func 77) #[] #[]] W fun e w' => e = .returned (.bool (l.hooks.all fun h => okRg h (-3) 3)) ∧ Below W.heap.size W w' :=
      fun W hb => allR_any l.hooks (fun h => okRg h (-3) 3) 77 #[] #[] ha hc W (H2.out.1.below hb (Nat.le_refl _)) (enters_of Try.func77 (by kernel_rfl) rfl) (fun x W _ _ => hook_any x W)
    have HA1 := Lib.hid hA1
    clear hA1
    cases g5 : l.hooks.all (fun h => okRg h (-3) 3)
    · have G5 := Lib.hid g5
      clear g5
      go_enter Try.func41, Try.ntmps41
      go_wp2_with (first | (go_at_call 57; refine Calls.mono (within_any _ _ _ _) ?_; rintro e w' ⟨rfl, rfl⟩) | fail)
      refine Calls.mono (HA1.out _ (by (repeat (first | assumption | exact Below.refl _ _ | refine Below.alloc ?_ (by first | omega | (simp only [World.size_alloc]; omega) | (simp; done)) _ | refine Below.trans ?_ (Below.mono (by assumption) (by first | omega | (simp only [World.size_alloc]; omega) | (simp; done))))))) ?_
      rw [G5.out]
      rintro e w1 ⟨rfl, hb1⟩
      go_wp2
      go_ret
      exact ⟨ret_int (by rw [hF.out, G5.out]; rfl), by (repeat (first | assumption | exact Below.refl _ _ | refine Below.alloc ?_ (by first | omega | (simp only [World.size_alloc]; omega) | (simp; done)) _ | refine Below.trans ?_ (Below.mono (by assumption) (by first | omega | (simp only [World.size_alloc]; omega) | (simp; done)))))⟩
    · have G5 := Lib.hid g5
      clear g5
      go_enter Try.func41, Try.ntmps41
      go_wp2_with (first | (go_at_call 57; refine Calls.mono (within_any _ _ _ _) ?_; rintro e w' ⟨rfl, rfl⟩) | fail)
      refine Calls.mono (HA1.out _ (by (repeat (first | assumption | exact Below.refl _ _ | refine Below.alloc ?_ (by first | omega | (simp only [World.size_alloc]; omega) | (simp; done)) _ | refine Below.trans ?_ (Below.mono (by assumption) (by first | omega | (simp only [World.size_alloc]; omega) | (simp; done))))))) ?_
      rw [G5.out]
      rintro e w1 ⟨rfl, hb1⟩
      obtain ⟨hc1, hf1, hz1⟩ := bcell hb1
      simp only [World.size_alloc] at hz1
      have := fun o => hc1 w.heap.size o (by simp)
      clear hc1 hf1
      have hA2 : Calls Try.prog 78 #[.slice pa l.patches.length pc, .func (.func 79) #[.agg #[I l.boards, I l.rows, .slice ha l.hooks.length hc, .slice pa l.patches.length pc]] #[]] w1 fun e w' => e = .returned (.bool (l.patches.all (okPa l))) ∧ Below w1.heap.size w1 w' :=
        allP_any l.patches (okPa l) 79 #[.agg #[I l.boards, I l.rows, .slice ha l.hooks.length hc, .slice pa l.patches.length pc]] #[] pa pc w1 (H2.out.2.below (show Below w.heap.size w w1 by (repeat (first | assumption | exact Below.refl _ _ | refine Below.alloc ?_ (by first | omega | (simp only [World.size_alloc]; omega) | (simp; done)) _ | refine Below.trans ?_ (Below.mono (by assumption) (by first | omega | (simp only [World.size_alloc]; omega) | (simp; done)))))) (Nat.le_refl _)) (enters_of Try.func79 (by kernel_rfl) rfl) (fun x W _ _ => patch_any l x ha pa hc pc W p5 p6 p7 p2)
      have HA2 := Lib.hid hA2
      clear hA2
      go_wp2_with fail
      refine Calls.mono HA2.out ?_
      cases g6 : l.patches.all (okPa l)
      all_goals
        have G6 := Lib.hid g6
        clear g6
        rintro e w2 ⟨rfl, hb2⟩
        go_wp2
        go_ret
        exact ⟨ret_int (by rw [hF.out, G5.out, G6.out]; rfl), by (repeat (first | assumption | exact Below.refl _ _ | refine Below.alloc ?_ (by first | omega | (simp only [World.size_alloc]; omega) | (simp; done)) _ | refine Below.trans ?_ (Below.mono (by assumption) (by first | omega | (simp only [World.size_alloc]; omega) | (simp; done)))))⟩

theorem Max_two (x y : Int) (b : Nat) (w : World) (h0 : w.cell? ⟨b, 0, none⟩ = some (I x)) (h1 : w.cell? ⟨b, 1, none⟩ = some (I y)) :
    Calls Try.prog 90 #[.slice (some ⟨b, 0, none⟩) 2 2] w fun e w' => e = .returned (I (max x y)) ∧ w = w' := by
  go_enter Try.func90, Try.ntmps90
  go_wp2
  go_loop [3, 4] (fun m i => (m = I x ∧ i = I 1) ∨ (∃ z, m = I z ∧ i = I 2 ∧ Hid (z = max x y))) (fun _ i => 2 - (intOf i).toNat)
  case atStart => exact .inl ⟨rfl, rfl⟩
  case round =>
    rcases hrel with ⟨rfl, rfl⟩ | ⟨z, rfl, rfl, hz⟩
    · go_wp2
      all_goals
        go_round
        case rel => exact .inr ⟨_, rfl, by go_num, by show _ = max x y; omega⟩
        case measure => simp [intOf]
    · go_wp2
      go_ret
      exact ⟨ret_int hz.out, rfl⟩

theorem Min_two (x y : Int) (b : Nat) (w : World) (h0 : w.cell? ⟨b, 0, none⟩ = some (I x)) (h1 : w.cell? ⟨b, 1, none⟩ = some (I y)) :
    Calls Try.prog 89 #[.slice (some ⟨b, 0, none⟩) 2 2] w fun e w' => e = .returned (I (min x y)) ∧ w = w' := by
  go_enter Try.func89, Try.ntmps89
  go_wp2
  go_loop [3, 4] (fun m i => (m = I x ∧ i = I 1) ∨ (∃ z, m = I z ∧ i = I 2 ∧ Hid (z = min x y))) (fun _ i => 2 - (intOf i).toNat)
  case atStart => exact .inl ⟨rfl, rfl⟩
  case round =>
    rcases hrel with ⟨rfl, rfl⟩ | ⟨z, rfl, rfl, hz⟩
    · go_wp2
      all_goals
        go_round
        case rel => exact .inr ⟨_, rfl, by go_num, by show _ = min x y; omega⟩
        case measure => simp [intOf]
    · go_wp2
      go_ret
      exact ⟨ret_int hz.out, rfl⟩

theorem greatest_two (x y : Int) (b : Nat) (w : World) (h0 : w.cell? ⟨b, 0, none⟩ = some (I x)) (h1 : w.cell? ⟨b, 1, none⟩ = some (I y)) :
    Calls Try.prog 68 #[.slice (some ⟨b, 0, none⟩) 2 2] w fun e w' => e = .returned (I (max x y)) ∧ w = w' := by
  have H := Lib.hid (Max_two x y b w h0 h1)
  go_enter Try.func68, Try.ntmps68
  go_wp2_with (go_at_call 90; refine H.out.mono ?_; rintro e w' ⟨rfl, rfl⟩)
  go_ret
  exact ⟨rfl, rfl⟩

theorem least_two (x y : Int) (b : Nat) (w : World) (h0 : w.cell? ⟨b, 0, none⟩ = some (I x)) (h1 : w.cell? ⟨b, 1, none⟩ = some (I y)) :
    Calls Try.prog 67 #[.slice (some ⟨b, 0, none⟩) 2 2] w fun e w' => e = .returned (I (min x y)) ∧ w = w' := by
  have H := Lib.hid (Min_two x y b w h0 h1)
  go_enter Try.func67, Try.ntmps67
  go_wp2_with (go_at_call 89; refine H.out.mono ?_; rintro e w' ⟨rfl, rfl⟩)
  go_ret
  exact ⟨rfl, rfl⟩

theorem next_any (s : St) (t : Int) (w : World) (h1 : -5 ≤ s.d) (h2 : s.d ≤ 5) (h3 : -3 ≤ t) (h4 : t ≤ 3) (h5 : -1000 ≤ s.b) (h6 : s.b ≤ 1000) :
    Calls Try.prog 82 #[.agg #[I s.b, I s.d], I t] w fun e w' => e = .returned (.agg #[I (nextS s t).b, I (nextS s t).d]) ∧ Below w.heap.size w w' := by
  obtain ⟨c, hc⟩ : ∃ c, c = clamp (s.d + t) := ⟨_, rfl⟩
  have c1 := clamp_bd (s.d + t)
  have HN : Hid (nextS s t = ⟨s.b + c, c⟩ ∧ c = max (-5) (min 5 (s.d + t))) := ⟨by rw [hc]; rfl, by rw [hc]; rfl⟩
  rw [← hc] at c1
  clear hc
  go_enter Try.func82, Try.ntmps82
  go_wp2_with fail
  refine Calls.mono (least_two 5 (s.d + t) _ _ (by simp [go_sem]) (by simp [go_sem])) ?_
  rintro e w' ⟨rfl, rfl⟩
  go_wp2_with fail
  refine Calls.mono (greatest_two (-5) (min 5 (s.d + t)) _ _ (by simp [go_sem]) (by simp [go_sem])) ?_
  rintro e w' ⟨rfl, rfl⟩
  rw [show max (-5) (min 5 (s.d + t)) = c from HN.out.2.symm]
  go_wp2
  rw [HN.out.1]
  refine bodyPost_ret (v := .agg #[I (s.b + c), I c]) ?_ rfl ⟨rfl, by (repeat (first | assumption | exact Below.refl _ _ | refine Below.alloc ?_ (by first | omega | (simp only [World.size_alloc]; omega) | (simp; done)) _ | refine Below.trans ?_ (Below.mono (by assumption) (by first | omega | (simp only [World.size_alloc]; omega) | (simp; done)))))⟩
  simp [results, Try.results82, go_sem]
end Go.Proofs.Ytcfhbnfincpehaa

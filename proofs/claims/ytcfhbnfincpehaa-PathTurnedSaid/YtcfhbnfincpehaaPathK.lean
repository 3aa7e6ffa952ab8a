/- The walk of package path: Reach. -/
import Derived.Test.YtcfhbnfincpehaaPathJ
namespace Go.Proofs.Ytcfhbnfincpehaa
open Go.RowKit Go.Shelf Go.Proofs

theorem valid_start {l : La} {s : St} (he : startErr l s = 0) : Valid l ∧ isStart l s = true := by
  have hf : fault l = 0 := by
    unfold startErr at he; split at he
    · omega
    · simp_all
  refine ⟨fault_valid hf, ?_⟩
  cases h : isStart l s
  · simp [startErr, hf, h] at he
  · rfl

theorem Reach_err (l : La) (s : St) (row : Int) (ha pa : Option Addr) (hc pc : Nat) (w : World) (H : LaneAt w l ha hc pa pc) (he : startErr l s ≠ 0) :
    Calls Try.prog 18 #[.agg #[I l.boards, I l.rows, .slice ha l.hooks.length hc, .slice pa l.patches.length pc], .agg #[I s.b, I s.d], I row] w fun e w' => e = .returned (.tuple #[.slice none 0 0, .int .u8 0, I (startErr l s)]) ∧ Below w.heap.size w w' := by
  have hC := fun o1 o2 => started_err l s ha pa hc pc ((w.alloc o1).alloc o2) (H.below (((Below.refl _ _).alloc (Nat.le_refl _) _).alloc (by simp) _) (Nat.le_refl _)) he
  have HC := Lib.hid hC
  clear hC H
  go_enter Try.func18, Try.ntmps18
  go_wp2_with (go_at_call 56; refine Calls.mono (HC.out _ _) ?_; rintro e w1 ⟨rfl, hb1⟩
               have hbW : Below w.heap.size w w1 := Below.trans (by (repeat (first | assumption | exact Below.refl _ _ | refine Below.alloc ?_ (by first | omega | (simp only [World.size_alloc]; omega) | (simp; done) | (simp; omega)) _ | refine Below.setCell ?_ (by first | omega | (simp only [World.size_alloc]; omega) | (simp; done) | (simp; omega)) _))) (hb1.mono (by first | omega | (simp only [World.size_alloc]; omega) | (simp; done) | (simp; omega))))
  go_ret3
  exact ⟨rfl, hbW.alloc hbW.size _⟩

theorem Reach_row (l : La) (s : St) (row : Int) (ha pa : Option Addr) (hc pc : Nat) (w : World) (H : LaneAt w l ha hc pa pc) (he : startErr l s = 0) (hr : ¬ (0 ≤ row ∧ row ≤ l.rows - 1)) :
    Calls Try.prog 18 #[.agg #[I l.boards, I l.rows, .slice ha l.hooks.length hc, .slice pa l.patches.length pc], .agg #[I s.b, I s.d], I row] w fun e w' => e = .returned (.tuple #[.slice none 0 0, .int .u8 0, I 2]) ∧ Below w.heap.size w w' := by
  have hC := fun o1 o2 => started_ok l s ha pa hc pc ((w.alloc o1).alloc o2) (H.below (((Below.refl _ _).alloc (Nat.le_refl _) _).alloc (by simp) _) (Nat.le_refl _)) he
  have HC := Lib.hid hC
  have V := (valid_start he).1
  have r1 := V.r1
  have r2 := V.r2
  clear hC H
  go_enter Try.func18, Try.ntmps18
  go_wp2_with (first
    | (go_at_call 56; refine Calls.mono (HC.out _ _) ?_; rintro e w1 ⟨g, rfl, hg, hB, hb1⟩
       have x3 := (((Box.new w [I l.boards, I l.rows, .slice ha l.hooks.length hc, .slice pa l.patches.length pc] 37).alloc (.cells #[I s.b, I s.d] 39)).later hb1).cell 1 rfl
       have hbW : Below w.heap.size w w1 := Below.trans (by (repeat (first | assumption | exact Below.refl _ _ | refine Below.alloc ?_ (by first | omega | (simp only [World.size_alloc]; omega) | (simp; done) | (simp; omega)) _ | refine Below.setCell ?_ (by first | omega | (simp only [World.size_alloc]; omega) | (simp; done) | (simp; omega)) _))) (hb1.mono (by first | omega | (simp only [World.size_alloc]; omega) | (simp; done) | (simp; omega)))
       have hz1 := hb1.size
       simp only [World.size_alloc] at hz1
       have hlt : w.heap.size < w1.heap.size := by omega)
    | (go_at_call 57; refine Calls.mono (within_any _ _ _ _) ?_; rintro e w2 ⟨rfl, rfl⟩))
  go_ret3
  exact ⟨rfl, hbW.alloc hbW.size _⟩

/-- The verdict of a row. -/
structure RowVerdict (l : La) (s : St) (row : Nat) (ts : List St) (v : Int) : Prop where
  mem : ∀ t, t ∈ ts ↔ Rch l s row t
  sorted : ts.Pairwise (fun x y => lessS x y = true)
  sure : ts = [] → v = 2
  may : ts ≠ [] → (∃ j, j < row ∧ Gut l s j) → v = 1
  never : ts ≠ [] → ¬ (∃ j, j < row ∧ Gut l s j) → v = 0

theorem Reach_ok (l : La) (s : St) (row : Nat) (ha pa : Option Addr) (hc pc : Nat) (w : World) (H : LaneAt w l ha hc pa pc) (he : startErr l s = 0) (hr : (row : Int) < l.rows) :
    Calls Try.prog 18 #[.agg #[I l.boards, I l.rows, .slice ha l.hooks.length hc, .slice pa l.patches.length pc], .agg #[I s.b, I s.d], I row] w fun e w' => ∃ (ts : List St) (u : Value) (v : Int), e = .returned (.tuple #[u, .int .u8 v, I 0]) ∧ SlOf encSt w' u ts ∧ RowVerdict l s row ts v ∧ NewSl w.heap.size u ∧ Below w.heap.size w w' := by
  have hC := fun o1 o2 => started_ok l s ha pa hc pc ((w.alloc o1).alloc o2) (H.below (((Below.refl _ _).alloc (Nat.le_refl _) _).alloc (by simp) _) (Nat.le_refl _)) he
  have HC := Lib.hid hC
  obtain ⟨V, h0⟩ := valid_start he
  have r1 := V.r1
  have r2 := V.r2
  have b2 := V.b2
  have hon := onL_start h0
  have hd := start_d h0
  have hok : ∀ t, Rch l s row t → okSt t := fun t ht => by
    have h1 := Rch.on hon ht
    have h2 := Rch.d hd ht
    have h3 : 1 ≤ t.b ∧ t.b ≤ l.boards := by simpa [onL] using h1
    exact ⟨by omega, by omega, h2.1, h2.2⟩
  have HK := Lib.hid hok
  have H0 := Lib.hid h0
  have hq : (row : Int) ≤ l.rows - 1 := by omega
  clear hC H hok hon h0
  go_enter Try.func18, Try.ntmps18
  go_wp2_with (first
    | (go_at_call 56; refine Calls.mono (HC.out _ _) ?_; rintro e w1 ⟨g, rfl, hg, hB, hb1⟩
       have x3 := (((Box.new w [I l.boards, I l.rows, .slice ha l.hooks.length hc, .slice pa l.patches.length pc] 37).alloc (.cells #[I s.b, I s.d] 39)).later hb1).cell 1 rfl
       have y0 := ((Box.new' (w := w.alloc (.cells #[I l.boards, I l.rows, .slice ha l.hooks.length hc, .slice pa l.patches.length pc] 37)) [I s.b, I s.d] 39 (by simp)).later hb1).cell (b := w.heap.size + 1) 0 rfl
       have y1 := ((Box.new' (w := w.alloc (.cells #[I l.boards, I l.rows, .slice ha l.hooks.length hc, .slice pa l.patches.length pc] 37)) [I s.b, I s.d] 39 (by simp)).later hb1).cell (b := w.heap.size + 1) 1 rfl
       have hbW : Below w.heap.size w w1 := Below.trans (by (repeat (first | assumption | exact Below.refl _ _ | refine Below.alloc ?_ (by first | omega | (simp only [World.size_alloc]; omega) | (simp; done) | (simp; omega)) _ | refine Below.setCell ?_ (by first | omega | (simp only [World.size_alloc]; omega) | (simp; done) | (simp; omega)) _))) (hb1.mono (by first | omega | (simp only [World.size_alloc]; omega) | (simp; done) | (simp; omega)))
       have hz1 := hb1.size
       simp only [World.size_alloc] at hz1
       have hlt : w.heap.size < w1.heap.size := by omega
       have hlt1 : w.heap.size + 1 < w1.heap.size := by omega)
    | (go_at_call 57; refine Calls.mono (within_any _ _ _ _) ?_; rintro e w2 ⟨rfl, rfl⟩)
    | (go_at_call 58; refine Calls.mono (reached_any l s ha pa hc pc g _ (hB.later (by (repeat (first | assumption | exact Below.refl _ _ | refine Below.alloc ?_ (by first | omega | (simp only [World.size_alloc]; omega) | (simp; done) | (simp; omega)) _ | refine Below.setCell ?_ (by first | omega | (simp only [World.size_alloc]; omega) | (simp; done) | (simp; omega)) _)))) H0.out) ?_; rintro e w3 ⟨A, cap, ms, γ, rfl, R⟩
       have hrl : row < ms.length := by rw [R.len]; omega
       have hrn : row < l.rows.toNat := by omega
       have yr : w3.cell? ⟨A, row, none⟩ = some (.map (some ms[row])) := R.row.cell row (by simp [hrl])
       have hset := (R.sets row hrl).2
       have hgut : Hid (γ ≤ row ↔ ∃ j, j < row ∧ Gut l s j) := (R.gut.le row hr).trans ⟨fun ⟨j, h1, h2⟩ => ⟨j, h1, h2.2⟩, fun ⟨j, h1, h2⟩ => ⟨j, h1, by omega, h2⟩⟩
       have hb3 := R.below)
    | (go_at_call 59; refine Calls.mono (sorted_any _ (Rch l s row) w3 hset HK.out) ?_; rintro e w4 ⟨ts, u, rfl, ⟨a2, cap2, rfl, hsl⟩, q2, q3, hnw, hb4⟩
       have hbd := hsl.bd))
  all_goals
    have hs3 := hb3.size
    simp only [World.size_alloc] at hs3
    have hsz := hbW.size
    have hnF : NewSl w.heap.size (.slice a2 ts.length cap2) := fun a n cap h => by have := hnw a n cap h; omega
    have hbF : Below w.heap.size w w4 := hbW.trans ((((Below.refl _ w1).alloc hbW.size _).trans (hb3.mono (by simp only [World.size_alloc]; omega))).trans (hb4.mono (by omega)))
  · rename_i h
    have hts : ts = [] := by simpa using h
    go_ret3
    exact ⟨ts, _, 2, rfl, ⟨a2, cap2, rfl, hsl⟩, ⟨q2, q3, fun _ => rfl, fun h => absurd hts h, fun h => absurd hts h⟩, hnF, hbF⟩
  · rename_i h1 h2
    go_ret3
    exact ⟨ts, _, 1, rfl, ⟨a2, cap2, rfl, hsl⟩, ⟨q2, q3, fun e => by simp [e] at h1, fun _ _ => rfl, fun _ h => absurd (hgut.out.1 h2) h⟩, hnF, hbF⟩
  · rename_i h1 h2
    go_ret3
    exact ⟨ts, _, 0, rfl, ⟨a2, cap2, rfl, hsl⟩, ⟨q2, q3, fun e => by simp [e] at h1, fun _ h => by have := hgut.out.2 h; omega, fun _ _ => rfl⟩, hnF, hbF⟩
end Go.Proofs.Ytcfhbnfincpehaa

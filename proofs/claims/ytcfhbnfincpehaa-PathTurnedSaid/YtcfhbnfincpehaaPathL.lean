/- The walks of package path: hit, miss, valid. -/
import Derived.Test.YtcfhbnfincpehaaPathK
namespace Go.Proofs.Ytcfhbnfincpehaa
open Go.RowKit Go.Shelf Go.Proofs

/-- A pocket is hit. -/
def hitsP (p : Pk) (arrived : Bool) (s : St) : Bool := arrived && inR s.b p.boards && inR s.d p.dirs

theorem hit_any (p : Pk) (arrived : Bool) (s : St) (w : World) :
    Calls Try.prog 91 #[.agg #[I p.boards.lo, I p.boards.hi, I p.dirs.lo, I p.dirs.hi], .bool arrived, .agg #[I s.b, I s.d]] w fun e w' => e = .returned (.bool (hitsP p arrived s)) ∧ Below w.heap.size w w' := by
  go_enter Try.func91, Try.ntmps91
  cases arrived
  · go_wp2_with fail
    go_ret
    exact ⟨rfl, by (repeat (first | assumption | exact Below.refl _ _ | refine Below.alloc ?_ (by first | omega | (simp only [World.size_alloc]; omega) | (simp; done) | (simp; omega)) _ | refine Below.setCell ?_ (by first | omega | (simp only [World.size_alloc]; omega) | (simp; done) | (simp; omega)) _))⟩
  · cases hh : inR s.b p.boards
    · go_wp2_with (go_at_call 81; refine Calls.mono (has_any p.boards s.b _) ?_; rintro e w1 ⟨rfl, hb1⟩
                   have hbW : Below w.heap.size w w1 := Below.trans (by (repeat (first | assumption | exact Below.refl _ _ | refine Below.alloc ?_ (by first | omega | (simp only [World.size_alloc]; omega) | (simp; done) | (simp; omega)) _ | refine Below.setCell ?_ (by first | omega | (simp only [World.size_alloc]; omega) | (simp; done) | (simp; omega)) _))) (hb1.mono (by first | omega | (simp only [World.size_alloc]; omega) | (simp; done) | (simp; omega))))
      go_ret
      exact ⟨ret_bool (by simp [hitsP, hh]), hbW⟩
    · go_wp2_with (first
        | (go_at_call 81; (with_reducible show Calls _ _ #[.agg #[I p.boards.lo, I p.boards.hi], I s.b] _ _); refine Calls.mono (has_any p.boards s.b _) ?_; rintro e w1 ⟨rfl, hb1⟩
           have hbW : Below w.heap.size w w1 := Below.trans (by (repeat (first | assumption | exact Below.refl _ _ | refine Below.alloc ?_ (by first | omega | (simp only [World.size_alloc]; omega) | (simp; done) | (simp; omega)) _ | refine Below.setCell ?_ (by first | omega | (simp only [World.size_alloc]; omega) | (simp; done) | (simp; omega)) _))) (hb1.mono (by first | omega | (simp only [World.size_alloc]; omega) | (simp; done) | (simp; omega)))
           have x2 := ((Box.new w [I p.boards.lo, I p.boards.hi, I p.dirs.lo, I p.dirs.hi] 62).alloc (.cells #[I s.b, I s.d] 39)).later hb1
           have y2 := x2.cell 2 rfl
           have y3 := x2.cell 3 rfl
           have z1 := ((Box.new' (w := w.alloc (.cells #[I p.boards.lo, I p.boards.hi, I p.dirs.lo, I p.dirs.hi] 62)) [I s.b, I s.d] 39 (by simp)).later hb1).cell (b := w.heap.size + 1) 1 rfl)
        | (go_at_call 81; refine Calls.mono (has_any p.dirs s.d _) ?_; rintro e w2 ⟨rfl, hb2⟩))
      go_ret
      exact ⟨ret_bool (by simp [hitsP, hh]), hbW.trans (hb2.mono hbW.size)⟩

theorem miss_any (p : Pk) (arrived : Bool) (s : St) (w : World) :
    Calls Try.prog 92 #[.agg #[I p.boards.lo, I p.boards.hi, I p.dirs.lo, I p.dirs.hi], .bool arrived, .agg #[I s.b, I s.d]] w fun e w' => e = .returned (.bool (!hitsP p arrived s)) ∧ Below w.heap.size w w' := by
  go_enter Try.func92, Try.ntmps92
  go_wp2_with (go_at_call 91; refine Calls.mono (hit_any p arrived s _) ?_; rintro e w1 ⟨rfl, hb1⟩
               have hbW : Below w.heap.size w w1 := Below.trans (by (repeat (first | assumption | exact Below.refl _ _ | refine Below.alloc ?_ (by first | omega | (simp only [World.size_alloc]; omega) | (simp; done) | (simp; omega)) _ | refine Below.setCell ?_ (by first | omega | (simp only [World.size_alloc]; omega) | (simp; done) | (simp; omega)) _))) (hb1.mono (by first | omega | (simp only [World.size_alloc]; omega) | (simp; done) | (simp; omega))))
  go_ret
  exact ⟨rfl, hbW⟩

theorem valid_any (p : Pk) (w : World) :
    Calls Try.prog 71 #[.agg #[I p.boards.lo, I p.boards.hi, I p.dirs.lo, I p.dirs.hi]] w fun e w' => e = .returned (.bool (isPocket p)) ∧ Below w.heap.size w w' := by
  go_enter Try.func71, Try.ntmps71
  go_wp2_with fail
  all_goals
    go_ret
    exact ⟨ret_bool (by first | (simp [isPocket]; omega) | simp [isPocket, *]), by (repeat (first | assumption | exact Below.refl _ _ | refine Below.alloc ?_ (by first | omega | (simp only [World.size_alloc]; omega) | (simp; done) | (simp; omega)) _ | refine Below.setCell ?_ (by first | omega | (simp only [World.size_alloc]; omega) | (simp; done) | (simp; omega)) _))⟩
end Go.Proofs.Ytcfhbnfincpehaa

/- The walks of package path: aimers. -/
import Derived.Test.YtcfhbnfincpehaaPathL
namespace Go.Proofs.Ytcfhbnfincpehaa
open Go.RowKit Go.Shelf Go.Proofs

set_option maxHeartbeats 4000000 in
theorem aimers_any (l : La) (p : Pk) (ha pa : Option Addr) (hc pc g : Nat) (w : World) :
    Calls Try.prog 73 #[.agg #[I l.boards, I l.rows, .slice ha l.hooks.length hc, .slice pa l.patches.length pc, .slice (some ⟨g, 0, none⟩) l.rows.toNat l.rows.toNat], .agg #[I p.boards.lo, I p.boards.hi, I p.dirs.lo, I p.dirs.hi]] w fun e w' => ∃ A1 A2 m1 m2 : Nat, e = .returned (.tuple #[.pointer (some ⟨A1, 0, none⟩), .pointer (some ⟨A2, 0, none⟩)]) ∧
      Box w' A1 [I l.boards, I l.rows, .slice ha l.hooks.length hc, .slice pa l.patches.length pc, .slice (some ⟨g, 0, none⟩) l.rows.toNat l.rows.toNat, I p.boards.lo, I p.boards.hi, I p.dirs.lo, I p.dirs.hi, .func (.func 91) #[] #[], .map (some m1)] ∧ Box w' A2 [I l.boards, I l.rows, .slice ha l.hooks.length hc, .slice pa l.patches.length pc, .slice (some ⟨g, 0, none⟩) l.rows.toNat l.rows.toNat, I p.boards.lo, I p.boards.hi, I p.dirs.lo, I p.dirs.hi, .func (.func 92) #[] #[], .map (some m2)] ∧ MapIs w' m1 ekSp (fun b => .bool b) (fun _ => none) ∧ MapIs w' m2 ekSp (fun b => .bool b) (fun _ => none) ∧
      w.heap.size ≤ A1 ∧ w.heap.size ≤ A2 ∧ w.heap.size ≤ m1 ∧ w.heap.size ≤ m2 ∧ m1 ≠ m2 ∧ Below w.heap.size w w' := by
  have hmm := @run_makeMap Try.prog
  go_enter Try.func73, Try.ntmps73
  go_wp2_with fail
  go_region
  all_goals
    go_wp2_with fail
    go_ret2
    apply Exists.intro; apply Exists.intro; apply Exists.intro; apply Exists.intro
    refine ⟨rfl, ?_, ?_, ?_, ?_, ?_, ?_, ?_, ?_, ?_, ?_⟩
    · refine Box.drew ?_
      repeat (first | exact Box.new' _ _ (by simp) | refine Box.alloc ?_ _)
    · refine Box.drew ?_
      repeat (first | exact Box.new' _ _ (by simp) | refine Box.alloc ?_ _)
    · refine MapIs.at_ (w := World.alloc _ _) ?_ rfl
      repeat (first | (refine MapIs.made' _ _ ?_; simp; done) | refine MapIs.alloc ?_ _)
    · refine MapIs.at_ (w := World.alloc _ _) ?_ rfl
      repeat (first | (refine MapIs.made' _ _ ?_; simp; done) | refine MapIs.alloc ?_ _)
    all_goals first | omega | (refine Below.drew ?_; (repeat (first | assumption | exact Below.refl _ _ | refine Below.alloc ?_ (by first | omega | (simp only [World.size_alloc]; omega) | (simp; done) | (simp; omega)) _ | refine Below.setCell ?_ (by first | omega | (simp only [World.size_alloc]; omega) | (simp; done) | (simp; omega)) _)))
end Go.Proofs.Ytcfhbnfincpehaa

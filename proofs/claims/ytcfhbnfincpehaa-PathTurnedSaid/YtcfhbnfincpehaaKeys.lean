/- States and spots as keys of maps; '==' on states. -/
import Derived.Test.YtcfhbnfincpehaaPathE
namespace Go.Proofs.Ytcfhbnfincpehaa
open Go.RowKit Go.Shelf

def ekSt (s : St) : Value := .agg #[I s.b, I s.d]
def ekSp (x : Int × St) : Value := .agg #[I x.1, I x.2.b, I x.2.d]
theorem heldSt : Try.prog.stoodInHeld 39 = false := by kernel_rfl
theorem heldSp : Try.prog.stoodInHeld 126 = false := by kernel_rfl
theorem St.ext' {a b : St} : a = b ↔ a.b = b.b ∧ a.d = b.d := by cases a; cases b; simp
theorem eqSt_run (d : Nat) (a b c e : Int) (w : World) : (Op.equalIn (d + 2) 39 (.agg #[I a, I b]) (.agg #[I c, I e])).run Try.prog w = .ok (decide (a = c ∧ b = e)) w := by
  have ht : Try.prog.underlying 39 = some (.struct (Try.prog.fieldsOf 39)) := by simp [Program.fieldsOf]
  rw [run_equalIn_struct w (d + 1) 39 _ _ ht heldSt]
  clear ht
  simp [go_sem]
  by_cases h1 : a = c <;> by_cases h2 : b = e <;> simp [h1, h2]
theorem eqSp_run (d : Nat) (r a b r' c e : Int) (w : World) : (Op.equalIn (d + 3) 126 (.agg #[I r, I a, I b]) (.agg #[I r', I c, I e])).run Try.prog w = .ok (decide (r = r' ∧ a = c ∧ b = e)) w := by
  have ht : Try.prog.underlying 126 = some (.struct (Try.prog.fieldsOf 126)) := by simp [Program.fieldsOf]
  rw [run_equalIn_struct w (d + 2) 126 _ _ ht heldSp]
  clear ht
  have h := eqSt_run d a b c e w
  simp [go_sem]
  simp only [I] at h
  by_cases h1 : r = r'
  · simp [h1, h]
    by_cases h2 : a = c <;> by_cases h3 : b = e <;> simp [h2, h3]
  · simp [h1]
theorem chkSt_run (n : Nat) (e : Bool) (a : St) (w : World) : (Instr.checkKey e (n + 2) 39 (ekSt a)).run Try.prog w = .ok () w := by
  unfold ekSt
  simp [Instr.checkKey, go_sem]
theorem chkSp_run (n : Nat) (e : Bool) (a : Int × St) (w : World) : (Instr.checkKey e (n + 3) 126 (ekSp a)).run Try.prog w = .ok () w := by
  unfold ekSp
  simp [Instr.checkKey, go_sem]

theorem goodSt : GoodKey Try.prog 39 ekSt := by
  refine GoodKey.of_struct Try.underlying39 (fun b k w => chkSt_run 9998 b k w) (fun a b w => ?_) (fun k => ?_) (fun a b h => ?_)
  · show (Op.equalIn (9998 + 2) 39 (ekSt a) (ekSt b)).run Try.prog w = _
    rw [show ekSt a = .agg #[I a.b, I a.d] from rfl, show ekSt b = .agg #[I b.b, I b.d] from rfl, eqSt_run]
    congr 1; exact decide_eq_decide.2 St.ext'.symm
  · show Instr.sameBits (9999 + 1) _ _ = true
    simp [ekSt, Instr.sameBits]
  · simp [ekSt] at h; exact St.ext'.2 h
theorem goodSp : GoodKey Try.prog 126 ekSp := by
  refine GoodKey.of_struct Try.underlying126 (fun b k w => chkSp_run 9997 b k w) (fun a b w => ?_) (fun k => ?_) (fun a b h => ?_)
  · show (Op.equalIn (9997 + 3) 126 (ekSp a) (ekSp b)).run Try.prog w = _
    rw [show ekSp a = .agg #[I a.1, I a.2.b, I a.2.d] from rfl, show ekSp b = .agg #[I b.1, I b.2.b, I b.2.d] from rfl, eqSp_run]
    congr 1; refine decide_eq_decide.2 ?_
    obtain ⟨r, s⟩ := a
    obtain ⟨r', s'⟩ := b
    simp [St.ext']
  · show Instr.sameBits (9999 + 1) _ _ = true
    simp [ekSp, Instr.sameBits]
  · obtain ⟨r, s⟩ := a
    obtain ⟨r', s'⟩ := b
    simp [ekSp] at h; simp [St.ext', h]
end Go.Proofs.Ytcfhbnfincpehaa

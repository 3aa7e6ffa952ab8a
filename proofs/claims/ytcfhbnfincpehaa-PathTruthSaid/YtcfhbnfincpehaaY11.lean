/- PathTruth: whatever the lane, the start, the pocket and the words, the law answers true and leaves its arguments as they were; no condition is asked. -/
import Derived.Test.YtcfhbnfincpehaaY10
set_option linter.unusedSimpArgs false
set_option linter.unusedVariables false
namespace Go.Proofs.Ytcfhbnfincpehaa
open Go.ChangeShapes Go.WideShapes Go.ChangeAt Go.RowKit
abbrev Wf16 := { m : Int // (Lit.int .u16 m).wf = true }
def encWf (n : Wf16) : List Value := [.int .u16 n.1]
instance : Rec encWf 1 := ⟨fun _ => rfl, by decide⟩
theorem opensU : OpensTo Try.prog 162 encWf := (opens_wfint Try.underlying162).to id fun _ => rfl
theorem KSl_map {α β : Type} {a : Option Addr} {n cap : Nat} {e : α → List Value} {e2 : β → List Value} {xs : List α} {w : World} (f : α → β) (hf : ∀ x, e x = e2 (f x)) (h : KSl a n cap e xs w) : KSl a n cap e2 (xs.map f) w := by
  refine ⟨?_, by rw [List.length_map]; exact h.2⟩
  have : (xs.map f).flatMap e2 = xs.flatMap e := by rw [List.flatMap_map]; congr 1; funext x; exact (hf x).symm
  rw [this]; exact h.1
set_option maxRecDepth 100000 in
theorem open_words {H : Type} {enc : TypeId × Value → H} {w : World} {r : Reach} {b0 base : Nat} {sp : Nat → Bool} {held : Bool} {v : Value} {d : DataW H} {p : List MemPlace} (hv : Value.okWide Try.prog w r b0 93 v) (h : DataW.Trod enc Try.prog w base sp held 93 v d p) :
    ∃ (ws : List Int) (a : Option Addr) (c : Nat), v = .slice a ws.length c ∧ wordsOk ws ∧ KSl a ws.length c encU ws w := by
  obtain ⟨a, c, xs, rfl, hk⟩ := open_slicev Try.underlying93 opensU (by kernel_rfl) hv h
  refine ⟨xs.map (·.1), a, c, by simp, ?_, ?_⟩
  · intro x hx
    obtain ⟨y, _, rfl⟩ := List.mem_map.1 hx
    have := y.2
    simpa [Lit.wf, IntKind.min, IntKind.max, IntKind.signed, IntKind.bits] using this
  · rw [List.length_map]; exact KSl_map (e := encWf) (e2 := encU) (fun x : Wf16 => x.1) (fun _ => rfl) hk
end Go.Proofs.Ytcfhbnfincpehaa
namespace Go.Proofs.Ytcfhbnfincpehaa.pathTruth
open Go.ChangeShapes Go.WideShapes Go.ChangeAt Go.RowKit

set_option maxRecDepth 100000 in
theorem lifted (os : Os) (started : os.Started) (H : Type) (enc : TypeId × Value → H) :
    ReturnsInHanded {} Try.checked os 12 .any (Rows.pathTruthSpec.pre6 enc Try.prog Try.f12 Rows.pathTruthRow.domain false) (Rows.pathTruthSpec.post enc Try.prog Try.f12 false true false false) := by
  refine returnsInHanded_of_change (C := Try.checked) own started (by kernel_rfl) Try.func12
    (ChangeSpec.witness6 (enc := enc) (C := Try.checked) false ⟨#[], #[.agg #[.int .i64 0, .int .i64 0, .slice none 0 0, .slice none 0 0], .agg #[.int .i64 0, .int .i64 0], .agg #[.int .i64 0, .int .i64 0, .int .i64 0, .int .i64 0], .slice none 0 0], []⟩ 8 (by kernel_rfl) (by kernel_rfl) (by kernel_rfl) (by kernel_rfl)) ?_
  intro W base args ds gs before hval0 hW hcnd _
  have hval : ∀ (j : Nat) t v, Try.f12.params[j]? = some t → args[j]? = some v → Value.okWide Try.prog W .any base t v := hval0
  have hW' := hW
  obtain ⟨p, q, hA0, hV, rfl, hfz, hnd⟩ := hW
  have hA : DataW.TrodAll enc Try.prog W 0 (fun _ => true) true Try.f12.params.toList args.toList ds p := hA0
  rw [Try.params12] at hA hval
  obtain ⟨v0, vs0, d0, ds0, p0, q0, hargs, rfl, rfl, h0, r0⟩ := trodAll_cons hA
  obtain ⟨v1, vs1, d1, ds1, p1, q1, rfl, rfl, rfl, h1, r1⟩ := trodAll_cons r0
  obtain ⟨v2, vs2, d2, ds2, p2, q2, rfl, rfl, rfl, h2, r2⟩ := trodAll_cons r1
  obtain ⟨v3, vs3, d3, ds3, p3, q3, rfl, rfl, rfl, h3, r3⟩ := trodAll_cons r2
  obtain ⟨rfl, rfl, rfl⟩ := trodAll_nil r3
  obtain rfl : args = #[v0, v1, v2, v3] := by cases args; simp_all
  obtain ⟨rfl, rfl⟩ := trodVars_none hV
  obtain ⟨l, ha, pa, hc, pc, rfl, hK⟩ := open_lane (hval 0 _ v0 rfl rfl) h0
  obtain ⟨s, rfl⟩ := open_aggv Try.underlying27 opensSt (hval 1 _ v1 rfl rfl) h1
  obtain ⟨p, rfl⟩ := open_aggv Try.underlying57 opensPk (hval 2 _ v2 rfl rfl) h2
  obtain ⟨ws, wa, wc, rfl, hws, hKw⟩ := open_words (hval 3 _ v3 rfl rfl) h3
  refine ((PathTruth_j l s p ws ha pa hc pc wa wc hws).below (W := W) fun w' h => ⟨hKw.below h, hK.below h⟩).mono fun e W' ⟨he, hbel⟩ => ?_
  subst he
  exact ⟨_, rfl, law_post (tb := 4) hW' hbel laidOut (by decide +kernel) rfl rfl Try.underlying4 rfl rfl rfl⟩

theorem over : Rows.pathTruthRow.holds Try.pinned (OpenSpec.ofChange Rows.pathTruthSpec) :=
  OpenClaim.holds_of_wide 12 Try.f12 rfl rfl rfl rfl rfl rfl rfl ⟨rfl, rfl, rfl, rfl, rfl⟩ rfl rfl rfl rfl rfl (by kernel_rfl) Try.func12 (by kernel_rfl)
    (of_decide_eq_true (by kernel_rfl)) (by unfold Func.isWrapper; rw [if_neg (of_decide_eq_false (by kernel_rfl))]; exact ⟨rfl, rfl⟩)
    (fun os started H enc _ => lifted os started H enc)

theorem proved : Rows.PathTruthSaid := over
#print axioms proved
end Go.Proofs.Ytcfhbnfincpehaa.pathTruth

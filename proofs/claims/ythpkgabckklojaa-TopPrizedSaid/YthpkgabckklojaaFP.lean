/- TopPrized: whatever the arguments, the law answers true and leaves them as they were; no condition is asked. -/
import Derived.Test.YthpkgabckklojaaTE
set_option linter.unusedSimpArgs false
set_option linter.unusedVariables false
namespace Go.Proofs.Ythpkgabckklojaa.topPrized
open Go.ChangeShapes Go.WideShapes Go.ChangeAt Go.RowKit Bl

set_option maxRecDepth 100000 in
set_option maxHeartbeats 2000000 in
theorem lifted (os : Os) (started : os.Started) (H : Type) (enc : TypeId × Value → H) :
    ReturnsInHanded {} Try.checked os 4 .any (Rows.topPrizedSpec.pre6 enc Try.prog Try.f4 Rows.topPrizedRow.domain false) (Rows.topPrizedSpec.post enc Try.prog Try.f4 false true false false) := by
  refine returnsInHanded_of_change (C := Try.checked) own started (by kernel_rfl) Try.func4
    (ChangeSpec.witness6 (enc := enc) (C := Try.checked) false ⟨#[], #[.agg #[.int .i64 0, .slice none 0 0], .slice none 0 0, .int .u16 0], []⟩ 8 (by kernel_rfl) (by kernel_rfl) (by kernel_rfl) (by kernel_rfl)) ?_
  intro W base args ds gs before hval0 hW hcnd _
  have hval : ∀ (j : Nat) t v, Try.f4.params[j]? = some t → args[j]? = some v → Value.okWide Try.prog W .any base t v := hval0
  have hW' := hW
  obtain ⟨p, q, hA0, hV, rfl, hfz, hnd⟩ := hW
  have hA : DataW.TrodAll enc Try.prog W 0 (fun _ => true) true Try.f4.params.toList args.toList ds p := hA0
  rw [Try.params4] at hA hval
  obtain ⟨v0, vs0, d0, ds0, p0, q0, hargs, rfl, rfl, h0, r0⟩ := trodAll_cons hA
  obtain ⟨v1, vs1, d1, ds1, p1, q1, rfl, rfl, rfl, h1, r1⟩ := trodAll_cons r0
  obtain ⟨v2, vs2, d2, ds2, p2, q2, rfl, rfl, rfl, h2, r2⟩ := trodAll_cons r1
  obtain ⟨rfl, rfl, rfl⟩ := trodAll_nil r2
  obtain rfl : args = #[v0, v1, v2] := by cases args; simp_all
  obtain ⟨rfl, rfl⟩ := trodVars_none hV
  obtain ⟨l, rfl, hKl⟩ := open_league (hval 0 _ v0 rfl rfl) h0
  obtain ⟨words, wordsa, wordsc, rfl, hwords, hKwords⟩ := open_words (hval 1 _ v1 rfl rfl) h1
  obtain ⟨prize, rfl, rfl, rfl, wprize⟩ := open_int Try.underlying49 (hval 2 _ v2 rfl rfl) h2
  have hprize : 0 ≤ prize ∧ prize ≤ 65535 := by simpa [Lit.wf, IntKind.min, IntKind.max, IntKind.signed, IntKind.bits] using wprize
  refine ((TopPrized_j l.n l.a l.c l.l wordsa wordsc words prize hwords hprize).below (W := W) fun w' h => ⟨hKl.below h, hKwords.below h⟩).mono fun e W' ⟨he, hbel⟩ => ?_
  subst he
  exact ⟨_, rfl, law_post (tb := 4) hW' hbel laidOut (by decide +kernel) rfl rfl Try.underlying4 rfl rfl rfl⟩

theorem over : Rows.topPrizedRow.holds Try.pinned (OpenSpec.ofChange Rows.topPrizedSpec) :=
  OpenClaim.holds_of_wide 4 Try.f4 rfl rfl rfl rfl rfl rfl rfl ⟨rfl, rfl, rfl, rfl, rfl⟩ rfl rfl rfl rfl rfl (by kernel_rfl) Try.func4 (by kernel_rfl)
    (of_decide_eq_true (by kernel_rfl)) (by unfold Func.isWrapper; rw [if_neg (of_decide_eq_false (by kernel_rfl))]; exact ⟨rfl, rfl⟩)
    (fun os started H enc _ => lifted os started H enc)

theorem proved : Rows.TopPrizedSaid := over
#print axioms proved
end Go.Proofs.Ythpkgabckklojaa.topPrized

/- TopCharged: whatever the arguments, the law answers true and leaves them as they were; no condition is asked. -/
import Derived.Test.YthpkgabckklojaaGreatC2
import Derived.Test.YthpkgabckklojaaGreatZA
import Derived.Test.YthpkgabckklojaaGreatZE
set_option linter.unusedSimpArgs false
set_option linter.unusedVariables false
namespace Go.Proofs.YthpkgabckklojaaGreat.topCharged
open Go.ChangeShapes Go.WideShapes Go.ChangeAt Go.RowKit Bl

set_option maxRecDepth 100000 in
set_option maxHeartbeats 2000000 in
theorem lifted (os : Os) (started : os.Started) (H : Type) (enc : TypeId × Value → H) :
    ReturnsInHanded {} Tryz.checked os 4 .any (Rows.topChargedSpec.pre6 enc Tryz.prog Tryz.f4 Rows.topChargedRow.domain false) (Rows.topChargedSpec.post enc Tryz.prog Tryz.f4 false true false false) := by
  refine returnsInHanded_of_change (C := Tryz.checked) own started (by kernel_rfl) Tryz.func4
    (ChangeSpec.witness6 (enc := enc) (C := Tryz.checked) false ⟨#[], #[.agg #[.int .i64 0, .slice none 0 0], .slice none 0 0, .slice none 0 0, .int .u8 0], []⟩ 8 (by kernel_rfl) (by kernel_rfl) (by kernel_rfl) (by kernel_rfl)) ?_
  intro W base args ds gs before hval0 hW hcnd _
  have hval : ∀ (j : Nat) t v, Tryz.f4.params[j]? = some t → args[j]? = some v → Value.okWide Tryz.prog W .any base t v := hval0
  have hW' := hW
  obtain ⟨p, q, hA0, hV, rfl, hfz, hnd⟩ := hW
  have hA : DataW.TrodAll enc Tryz.prog W 0 (fun _ => true) true Tryz.f4.params.toList args.toList ds p := hA0
  rw [Tryz.params4] at hA hval
  obtain ⟨v0, vs0, d0, ds0, p0, q0, hargs, rfl, rfl, h0, r0⟩ := trodAll_cons hA
  obtain ⟨v1, vs1, d1, ds1, p1, q1, rfl, rfl, rfl, h1, r1⟩ := trodAll_cons r0
  obtain ⟨v2, vs2, d2, ds2, p2, q2, rfl, rfl, rfl, h2, r2⟩ := trodAll_cons r1
  obtain ⟨v3, vs3, d3, ds3, p3, q3, rfl, rfl, rfl, h3, r3⟩ := trodAll_cons r2
  obtain ⟨rfl, rfl, rfl⟩ := trodAll_nil r3
  obtain rfl : args = #[v0, v1, v2, v3] := by cases args; simp_all
  obtain ⟨rfl, rfl⟩ := trodVars_none hV
  obtain ⟨h, rfl, hKh⟩ := En.open_house (hval 0 _ v0 rfl rfl) h0
  obtain ⟨groupsa, groupsc, groups, rfl, hKgroups⟩ := En.open_groups (hval 1 _ v1 rfl rfl) h1
  obtain ⟨offersa, offersc, offers, rfl, hKoffers⟩ := open_slicev Tryz.underlying81 opensOf (by kernel_rfl) (hval 2 _ v2 rfl rfl) h2
  obtain ⟨hour, rfl, rfl, rfl, whour⟩ := open_int Tryz.underlying5 (hval 3 _ v3 rfl rfl) h3
  have hhour : 0 ≤ hour ∧ hour ≤ 255 := by simpa [Lit.wf, IntKind.min, IntKind.max, IntKind.signed, IntKind.bits] using whour
  refine ((TopCharged_j h groupsa groupsc groups offersa offersc offers hour hhour).below (W := W) fun w' h => ⟨hKh.below h, hKgroups.below h, hKoffers.below h⟩).mono fun e W' ⟨he, hbel⟩ => ?_
  subst he
  exact ⟨_, rfl, law_post (tb := 4) hW' hbel laidOut (by decide +kernel) rfl rfl Tryz.underlying4 rfl rfl rfl⟩

theorem over : Rows.topChargedRow.holds Tryz.pinned (OpenSpec.ofChange Rows.topChargedSpec) :=
  OpenClaim.holds_of_wide 4 Tryz.f4 rfl rfl rfl rfl rfl rfl rfl ⟨rfl, rfl, rfl, rfl, rfl⟩ rfl rfl rfl rfl rfl (by kernel_rfl) Tryz.func4 (by kernel_rfl)
    (of_decide_eq_true (by kernel_rfl)) (by unfold Func.isWrapper; rw [if_neg (of_decide_eq_false (by kernel_rfl))]; exact ⟨rfl, rfl⟩)
    (fun os started H enc _ => lifted os started H enc)

theorem proved : Rows.TopChargedSaid := over
#print axioms proved
end Go.Proofs.YthpkgabckklojaaGreat.topCharged

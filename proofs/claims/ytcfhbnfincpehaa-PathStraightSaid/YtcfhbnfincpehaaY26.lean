/- PathStraight: whatever the arguments, the law answers true and leaves them as they were; no condition is asked. -/
import Derived.Test.YtcfhbnfincpehaaY25
import Derived.SizedLaws
set_option linter.unusedSimpArgs false
set_option linter.unusedVariables false
namespace Go.Proofs.Ytcfhbnfincpehaa.pathStraight
open Go.ChangeShapes Go.WideShapes Go.ChangeAt Go.RowKit Go.ChangeShapes Go.WideShapes Go.ChangeAt Go.RowKit Go.Deep Go.Joins

set_option maxRecDepth 100000 in
/-- What the hooks of a lane that came in weigh. -/
theorem open_lane_sized {H : Type} {enc : TypeId × Value → H} {w : World} {r : Reach} {b0 base : Nat} {sp : Nat → Bool} {held : Bool} {v : Value} {d : DataW H} {p : List MemPlace} (hv : Value.okWide Try.prog w r b0 25 v) (h : DataW.Trod enc Try.prog w base sp held 25 v d p) :
    ∃ (l : La) (ha pa : Option Addr) (hc pc : Nat), v = .agg #[I l.boards, I l.rows, .slice ha l.hooks.length hc, .slice pa l.patches.length pc] ∧ KLane l ha hc pa pc w ∧ ((DataW.weights Try.prog 25 d).all (· ≤ reachBytes) = true → l.hooks.length * 16 ≤ 140737488355328) := by
  obtain ⟨l, ha, pa, hc, pc, e, hK⟩ := open_lane hv h
  refine ⟨l, ha, pa, hc, pc, e, hK, fun hs => ?_⟩
  obtain ⟨v0, v1, v2, v3, y0, y1, y2, y3, n, rfl, rfl, _, t0, t1, t2, t3⟩ := open_agg4 Try.underlying25 (by kernel_rfl) (by kernel_rfl) hv h
  injection e with e
  injection e with e
  injection e with _ e
  injection e with _ e
  injection e with e2 _
  subst e2
  rcases open_slice Try.underlying22 t2 with ⟨e, _⟩ | ⟨a, len, cap, m, n', D, Pl, e, _, hle, _, hm, hx, _⟩
  · injection e with e _
    injection e with _ e _
    omega
  · injection e with e _
    injection e with _ e _
    have := List.all_eq_true.1 hs ((((List.range len).map D).length + ((List.range (m - len)).map fun j => D (len + j)).length) * Try.prog.bytesOf 53)
      (by rw [hx]; simp [DataW.weights, DataW.weightsEach, Try.underlying25, Try.underlying22])
    simp only [List.length_map, List.length_range, decide_eq_true_eq, show Try.prog.bytesOf 53 = 16 from by kernel_rfl, show reachBytes = 140737488351232 from rfl] at this
    omega
set_option maxRecDepth 100000 in
theorem lifted (os : Os) (started : os.Started) (H : Type) (enc : TypeId × Value → H) :
    ReturnsInHanded {} Try.checked os 9 .any (Rows.pathStraightSpec.pre6 enc Try.prog Try.f9 Rows.pathStraightRow.domain false) (Rows.pathStraightSpec.post enc Try.prog Try.f9 false true false false) := by
  refine returnsInHanded_of_change_sized (C := Try.checked) own started (by kernel_rfl) Try.func9
    (ChangeSpec.witness6 (enc := enc) (C := Try.checked) false ⟨#[], #[.agg #[.int .i64 0, .int .i64 0, .slice none 0 0, .slice none 0 0], .agg #[.int .i64 0, .int .i64 0], .agg #[.int .i64 0, .int .i64 0, .int .i64 0, .int .i64 0]], []⟩ 8 (by kernel_rfl) (by kernel_rfl) (by kernel_rfl) (by kernel_rfl)) ?_
  intro W base args ds gs before hval0 hW hcnd hsz _
  have hval : ∀ (j : Nat) t v, Try.f9.params[j]? = some t → args[j]? = some v → Value.okWide Try.prog W .any base t v := hval0
  have hW' := hW
  obtain ⟨p, q, hA0, hV, rfl, hfz, hnd⟩ := hW
  have hA : DataW.TrodAll enc Try.prog W 0 (fun _ => true) true Try.f9.params.toList args.toList ds p := hA0
  rw [Try.params9] at hA hval
  obtain ⟨v0, vs0, d0, ds0, p0, q0, hargs, rfl, rfl, h0, r0⟩ := trodAll_cons hA
  obtain ⟨v1, vs1, d1, ds1, p1, q1, rfl, rfl, rfl, h1, r1⟩ := trodAll_cons r0
  obtain ⟨v2, vs2, d2, ds2, p2, q2, rfl, rfl, rfl, h2, r2⟩ := trodAll_cons r1
  obtain ⟨rfl, rfl, rfl⟩ := trodAll_nil r2
  obtain rfl : args = #[v0, v1, v2] := by cases args; simp_all
  obtain ⟨rfl, rfl⟩ := trodVars_none hV
  obtain ⟨l, la, lpa, lc, lpc, rfl, hKl, hsz1⟩ := open_lane_sized (hval 0 _ v0 rfl rfl) h0
  obtain ⟨s, rfl⟩ := open_aggv Try.underlying27 opensSt (hval 1 _ v1 rfl rfl) h1
  obtain ⟨p, rfl⟩ := open_aggv Try.underlying57 opensPk (hval 2 _ v2 rfl rfl) h2
  have hsz2 : l.hooks.length * 16 ≤ 140737488355328 := hsz1 (by
    refine List.all_eq_true.2 fun n hn => List.all_eq_true.1 hsz n ?_
    rw [Try.params9]
    exact List.mem_append_left _ hn)
  refine ((PathStraight_j l s p la lpa lc lpc hsz2).below (W := W) fun w' h => hKl.below h).mono fun e W' ⟨he, hbel⟩ => ?_
  subst he
  exact ⟨_, rfl, law_post (tb := 4) hW' hbel laidOut (by decide +kernel) rfl rfl Try.underlying4 rfl rfl rfl⟩

theorem over : Rows.pathStraightRow.holds Try.pinned (OpenSpec.ofChange Rows.pathStraightSpec) :=
  OpenClaim.holds_of_wide 9 Try.f9 rfl rfl rfl rfl rfl rfl rfl ⟨rfl, rfl, rfl, rfl, rfl⟩ rfl rfl rfl rfl rfl (by kernel_rfl) Try.func9 (by kernel_rfl)
    (of_decide_eq_true (by kernel_rfl)) (by unfold Func.isWrapper; rw [if_neg (of_decide_eq_false (by kernel_rfl))]; exact ⟨rfl, rfl⟩)
    (fun os started H enc _ => lifted os started H enc)

theorem proved : Rows.PathStraightSaid := over
#print axioms proved
end Go.Proofs.Ytcfhbnfincpehaa.pathStraight

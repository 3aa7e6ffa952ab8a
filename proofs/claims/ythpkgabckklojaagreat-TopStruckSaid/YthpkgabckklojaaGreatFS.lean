/- TopStruck: whatever the arguments, the law answers true and leaves them as they were; no condition is asked. -/
import Derived.Test.YthpkgabckklojaaGreatKJ
set_option linter.unusedSimpArgs false
set_option linter.unusedVariables false
namespace Go.Proofs.YthpkgabckklojaaGreat.Rk
open Go.ChangeShapes Go.WideShapes Go.ChangeAt Go.RowKit Go.Deep Go.Joins

abbrev Wf16 := { m : Int // (Lit.int .u16 m).wf = true }
def encWf (n : Wf16) : List Value := [.int .u16 n.1]
instance : Rec encWf 1 := ⟨fun _ => rfl, by decide⟩
theorem opensU : OpensTo Tryz.prog 133 encWf := (opens_wfint Tryz.underlying133).to id fun _ => rfl
theorem KSl_map {α β : Type} {a : Option Addr} {n cap : Nat} {e : α → List Value} {e2 : β → List Value} {xs : List α} {w : World} (f : α → β) (hf : ∀ x, e x = e2 (f x)) (h : KSl a n cap e xs w) : KSl a n cap e2 (xs.map f) w := by
  refine ⟨?_, by rw [List.length_map]; exact h.2⟩
  have : (xs.map f).flatMap e2 = xs.flatMap e := by rw [List.flatMap_map]; congr 1; funext x; exact (hf x).symm
  rw [this]; exact h.1
set_option maxRecDepth 100000 in
theorem open_words {H : Type} {enc : TypeId × Value → H} {w : World} {r : Reach} {b0 base : Nat} {sp : Nat → Bool} {held : Bool} {v : Value} {d : DataW H} {p : List MemPlace} (hv : Value.okWide Tryz.prog w r b0 32 v) (h : DataW.Trod enc Tryz.prog w base sp held 32 v d p) :
    ∃ (ws : List Int) (a : Option Addr) (c : Nat), v = .slice a ws.length c ∧ wordsOk ws ∧ KSl a ws.length c encU ws w := by
  obtain ⟨a, c, xs, rfl, hk⟩ := open_slicev Tryz.underlying32 opensU (by kernel_rfl) hv h
  refine ⟨xs.map (·.1), a, c, by simp, ?_, ?_⟩
  · intro x hx
    obtain ⟨y, _, rfl⟩ := List.mem_map.1 hx
    have := y.2
    simpa [Lit.wf, IntKind.min, IntKind.max, IntKind.signed, IntKind.bits] using this
  · rw [List.length_map]; exact KSl_map (e := encWf) (e2 := encU) (fun x : Wf16 => x.1) (fun _ => rfl) hk
theorem opensN : OpensTo Tryz.prog 3 encN := (opens_int Tryz.underlying3).to id fun _ => rfl
theorem opensB : OpensTo Tryz.prog 4 (fun b : Bool => [.bool b]) := fun H enc w base sp hd n cs y hy => by
  obtain ⟨m, rfl, _⟩ := DataW.trod_bool Tryz.underlying4 hy
  exact ⟨m, rfl⟩
set_option maxRecDepth 100000 in
theorem opensLk : OpensTo Tryz.prog 111 encLk :=
  (opens_struct3 Tryz.underlying111 opensN opensN opensB rfl (by kernel_rfl) (by kernel_rfl) (by kernel_rfl)).to (fun p => ⟨p.1, p.2.1, p.2.2⟩) fun _ => rfl
set_option maxRecDepth 100000 in
theorem opensIntv {H : Type} {enc : TypeId × Value → H} {w : World} {base n : Nat} {sp : Nat → Bool} {held : Bool} {cs : List Value} {y : DataW H × List MemPlace} (h : DataW.trod enc Tryz.prog w base sp held n 3 cs = some y) : ∃ m : Int, cs = [I m] := opensN _ _ _ _ _ _ _ _ _ h
set_option maxRecDepth 100000 in
theorem opensRack : ∀ (H : Type) (enc : TypeId × Value → H) (w : World) (base : Nat) (sp : Nat → Bool) (hd : Bool) (n : Nat) (cs : List Value) (y : DataW H × List MemPlace), DataW.trod enc Tryz.prog w base sp hd n 30 cs = some y →
    ∃ (r : Rk) (a : Option Addr) (c : Nat), cs = [I r.rows, I r.mid, I r.gap, I r.rch, .slice a r.ls.length c] ∧ KRk r a c w := by
  intro H enc w base sp hd n cs y hy
  obtain ⟨xs, m, _, _, hl, hlen, hf⟩ := DataW.trod_struct Tryz.underlying30 hy
  match xs, hlen with
  | [y0, y1, y2, y3, y4], _ =>
  have hc5 : cs.length = 5 := by rw [hl]; kernel_rfl
  match cs, hc5 with
  | [c0, c1, c2, c3, c4], _ =>
  have h0 := hf 0 _ rfl
  have h1 := hf 1 _ rfl
  have h2 := hf 2 _ rfl
  have h3 := hf 3 _ rfl
  have h4 := hf 4 _ rfl
  obtain ⟨rows, e0⟩ := opensIntv (cs := [c0]) (y := y0) h0
  obtain ⟨mid, e1⟩ := opensIntv (cs := [c1]) (y := y1) h1
  obtain ⟨gap, e2⟩ := opensIntv (cs := [c2]) (y := y2) h2
  obtain ⟨rch, e3⟩ := opensIntv (cs := [c3]) (y := y3) h3
  obtain ⟨a, c, ls, e4, k⟩ := opens_slice (cs := [c4]) (y := y4) Tryz.underlying28 opensLk (by kernel_rfl) h4
  simp only [List.cons.injEq, and_true] at e0 e1 e2 e3 e4
  subst e0 e1 e2 e3 e4
  exact ⟨⟨rows, mid, gap, rch, ls⟩, a, c, rfl, k⟩
set_option maxRecDepth 100000 in
theorem open_rack {H : Type} {enc : TypeId × Value → H} {w : World} {r : Reach} {b0 base : Nat} {sp : Nat → Bool} {held : Bool} {v : Value} {d : DataW H} {p : List MemPlace} (hv : Value.okWide Tryz.prog w r b0 30 v) (h : DataW.Trod enc Tryz.prog w base sp held 30 v d p) :
    ∃ (r : Rk) (a : Option Addr) (c : Nat), v = vRk r a c ∧ KRk r a c w := by
  obtain ⟨cs, rfl, _⟩ := okWide_struct Tryz.underlying30 hv
  obtain ⟨fuel, hf⟩ := h
  obtain ⟨r, a, c, hx, hk⟩ := opensRack _ _ _ _ _ _ _ _ _ hf
  refine ⟨r, a, c, ?_, hk⟩
  simp only [Value.cells] at hx
  cases cs
  simp only at hx
  subst hx
  rfl
end Go.Proofs.YthpkgabckklojaaGreat.Rk
namespace Go.Proofs.YthpkgabckklojaaGreat.topStruck
open Go.ChangeShapes Go.WideShapes Go.ChangeAt Go.RowKit Rk

set_option maxRecDepth 100000 in
set_option maxHeartbeats 2000000 in
theorem lifted (os : Os) (started : os.Started) (H : Type) (enc : TypeId × Value → H) :
    ReturnsInHanded {} Tryz.checked os 3 .any (Rows.topStruckSpec.pre6 enc Tryz.prog Tryz.f3 Rows.topStruckRow.domain false) (Rows.topStruckSpec.post enc Tryz.prog Tryz.f3 false true false false) := by
  refine returnsInHanded_of_change (C := Tryz.checked) own started (by kernel_rfl) Tryz.func3
    (ChangeSpec.witness6 (enc := enc) (C := Tryz.checked) false ⟨#[], #[.agg #[.int .i64 0, .int .i64 0, .slice none 0 0, .slice none 0 0], .agg #[.int .i64 0, .int .i64 0], .agg #[.int .i64 0, .int .i64 0, .int .i64 0, .int .i64 0, .slice none 0 0], .slice none 0 0, .slice none 0 0, .slice none 0 0], []⟩ 8 (by kernel_rfl) (by kernel_rfl) (by kernel_rfl) (by kernel_rfl)) ?_
  intro W base args ds gs before hval0 hW hcnd _
  have hval : ∀ (j : Nat) t v, Tryz.f3.params[j]? = some t → args[j]? = some v → Value.okWide Tryz.prog W .any base t v := hval0
  have hW' := hW
  obtain ⟨p, q, hA0, hV, rfl, hfz, hnd⟩ := hW
  have hA : DataW.TrodAll enc Tryz.prog W 0 (fun _ => true) true Tryz.f3.params.toList args.toList ds p := hA0
  rw [Tryz.params3] at hA hval
  obtain ⟨v0, vs0, d0, ds0, p0, q0, hargs, rfl, rfl, h0, r0⟩ := trodAll_cons hA
  obtain ⟨v1, vs1, d1, ds1, p1, q1, rfl, rfl, rfl, h1, r1⟩ := trodAll_cons r0
  obtain ⟨v2, vs2, d2, ds2, p2, q2, rfl, rfl, rfl, h2, r2⟩ := trodAll_cons r1
  obtain ⟨v3, vs3, d3, ds3, p3, q3, rfl, rfl, rfl, h3, r3⟩ := trodAll_cons r2
  obtain ⟨v4, vs4, d4, ds4, p4, q4, rfl, rfl, rfl, h4, r4⟩ := trodAll_cons r3
  obtain ⟨v5, vs5, d5, ds5, p5, q5, rfl, rfl, rfl, h5, r5⟩ := trodAll_cons r4
  obtain ⟨rfl, rfl, rfl⟩ := trodAll_nil r5
  obtain rfl : args = #[v0, v1, v2, v3, v4, v5] := by cases args; simp_all
  obtain ⟨rfl, rfl⟩ := trodVars_none hV
  obtain ⟨l, la, lpa, lc, lpc, rfl, hKl⟩ := open_lane (hval 0 _ v0 rfl rfl) h0
  obtain ⟨s, rfl⟩ := open_aggv Tryz.underlying27 opensSt (hval 1 _ v1 rfl rfl) h1
  obtain ⟨r, ra, rc, rfl, hKr⟩ := open_rack (hval 2 _ v2 rfl rfl) h2
  obtain ⟨pinsa, pinsc, pins, rfl, hKpins⟩ := open_slicev Tryz.underlying31 opensN (by kernel_rfl) (hval 3 _ v3 rfl rfl) h3
  obtain ⟨ws, wsa, wsc, rfl, hws, hKws⟩ := open_words (hval 4 _ v4 rfl rfl) h4
  obtain ⟨os, osa, osc, rfl, hos, hKos⟩ := open_words (hval 5 _ v5 rfl rfl) h5
  refine ((TopStruck_j l s la lpa lc lpc r ra rc pinsa pinsc pins wsa wsc ws osa osc os hws hos).below (W := W) fun w' h => ⟨hKl.below h, hKr.below h, hKpins.below h, hKws.below h, hKos.below h⟩).mono fun e W' ⟨he, hbel⟩ => ?_
  subst he
  exact ⟨_, rfl, law_post (tb := 4) hW' hbel laidOut (by decide +kernel) rfl rfl Tryz.underlying4 rfl rfl rfl⟩

theorem over : Rows.topStruckRow.holds Tryz.pinned (OpenSpec.ofChange Rows.topStruckSpec) :=
  OpenClaim.holds_of_wide 3 Tryz.f3 rfl rfl rfl rfl rfl rfl rfl ⟨rfl, rfl, rfl, rfl, rfl⟩ rfl rfl rfl rfl rfl (by kernel_rfl) Tryz.func3 (by kernel_rfl)
    (of_decide_eq_true (by kernel_rfl)) (by unfold Func.isWrapper; rw [if_neg (of_decide_eq_false (by kernel_rfl))]; exact ⟨rfl, rfl⟩)
    (fun os started H enc _ => lifted os started H enc)

theorem proved : Rows.TopStruckSaid := over
#print axioms proved
end Go.Proofs.YthpkgabckklojaaGreat.topStruck

/- Own texts, laid together: E15 E16 E17 E18 E19p E21p E22 E23 E24p E24 T7 T8 T9. Nothing is asked. -/
import Derived.Test.YthpkgabckklojaaH9
import Derived.Test.YthpkgabckklojaaH3
import Derived.Test.YthpkgabckklojaaH4
import Derived.Test.YthpkgabckklojaaH6
set_option linter.unusedSimpArgs false
set_option linter.unusedVariables false
/- Walks of the laws and the reference of lend: copies, what is thin, what is valid. -/
namespace Go.Proofs.Ythpkgabckklojaa.En
open Go.RowKit Go.Shelf

theorem snoc_len {α : Type} {l : List α} {i : Nat} (h : i < l.length) : (l.take i).length + 1 = (l.take (i + 1)).length := by rw [take_snoc h, List.length_append]; rfl
theorem snoc_flat {α : Type} (e : α → List Value) {l : List α} {i : Nat} (h : i < l.length) : (l.take i).flatMap e ++ e l[i] = (l.take (i + 1)).flatMap e := by rw [take_snoc h, List.flatMap_append, List.flatMap_cons, List.flatMap_nil, List.append_nil]
theorem encI_one (y : Int) : (encI y).all (·.oneCell') = true := rfl
theorem all_snoc {α : Type} {p : α → Bool} {l : List α} {i : Nat} (h : i < l.length) (h1 : (l.take i).all p = true) (h2 : p l[i] = true) : (l.take (i + 1)).all p = true := by
  rw [take_snoc h, List.all_append, h1]; simp [h2]
theorem all_no {α : Type} {p : α → Bool} {l : List α} {i : Nat} (h : i < l.length) (h2 : p l[i] = false) : l.all p = false := by
  cases ha : l.all p
  · rfl
  · have := List.all_eq_true.1 ha _ (List.getElem_mem h); rw [h2] at this; cases this
theorem KFt_snoc {ys : List Gx} {y : Gx} {w : World} (h : KFt ys w) (h2 : KSl y.a y.g.feet.length y.c encI y.g.feet w) : KFt (ys ++ [y]) w := fun x hx => by
  rcases List.mem_append.1 hx with hx | hx
  · exact h x hx
  · rw [List.mem_singleton.1 hx]; exact h2
def thinB (h : Hs) (l : List Gr) : Bool := ((l.take 13).all fun g => decide (g.feet.length ≤ 10)) && (decide (h.shoes.length ≤ 14) && decide (l.length ≤ 12))
theorem thin_lens {h : Hs} {l : List Gr} (q : thinB h l = true) : h.shoes.length ≤ 14 ∧ l.length ≤ 12 ∧ ∀ g ∈ l, g.feet.length ≤ 10 := by
  unfold thinB at q
  simp only [Bool.and_eq_true, decide_eq_true_eq] at q
  refine ⟨q.2.1, q.2.2, fun g hg => ?_⟩
  rw [List.take_of_length_le (by omega)] at q
  exact of_decide_eq_true (List.all_eq_true.1 q.1 g hg)
theorem eqGr (g : Gr) : grOk g = (inI g.fr 0 30 && (decide (g.fr ≤ g.lo) && (decide (g.lo ≤ g.hi) && (inI g.hi 0 30 && g.feet.all fun n => inI n 0 9)))) := rfl
theorem grOk_r (g : Gr) : (!inI g.fr 0 30 || !inI g.lo g.fr g.hi || decide (30 < g.hi) || !(g.feet.all fun n => inI n 0 9)) = !grOk g := by
  rw [eqGr]
  rw [Bool.eq_iff_iff]
  simp only [inI, Bool.or_eq_true, Bool.not_eq_true', decide_eq_false_iff_not, decide_eq_true_eq, Bool.and_eq_false_iff]
  cases (g.feet.all fun n => decide (0 ≤ n ∧ n ≤ 9))
  · simp
  · simp; omega
end Go.Proofs.Ythpkgabckklojaa.En

/- Walks of the reference of lend: plans. -/
namespace Go.Proofs.Ythpkgabckklojaa.En
open Go.RowKit Go.Shelf

/-- Two groups have a lane at an hour. -/
def meetP (zs : List (Gr × Int)) (t : Int) (i k : Nat) : Prop := ∃ (hi : i < zs.length) (hk : k < zs.length), 0 ≤ zs[i].2 ∧ zs[i].2 = zs[k].2 ∧ stays zs[i].1 t = true ∧ stays zs[k].1 t = true
theorem right_iff {zs : List (Gr × Int)} (hV : ∀ z ∈ zs, VGr z.1) : RightZ zs ↔ ∀ t : Nat, t ≤ 30 → ∀ i, i < zs.length → ∀ k, k < i → ¬ meetP zs t i k := by
  constructor
  · rintro h t _ i hi k hk ⟨_, hkl, q1, q2, q3, q4⟩
    have hp := List.pairwise_iff_getElem.1 h k i hkl hi hk
    have s3 := inI_iff.1 q3
    have s4 := inI_iff.1 q4
    exact hp ⟨by omega, q2.symm, by unfold ovl; omega⟩
  · intro h
    refine List.pairwise_iff_getElem.2 fun k i hk hi hki => ?_
    rintro ⟨q1, q2, q3⟩
    have vk := hV _ (List.getElem_mem hk)
    have vi := hV _ (List.getElem_mem hi)
    have := vk.f0; have := vk.fl; have := vk.lh; have := vk.h1
    have := vi.f0; have := vi.fl; have := vi.lh; have := vi.h1
    obtain ⟨t, t1, t2⟩ := (meets (a := zs[k].1) (b := zs[i].1) (by omega) (by omega)).2 q3
    have s1 := inI_iff.1 t1
    have s2 := inI_iff.1 t2
    refine h t.toNat (by omega) i hi k hki ⟨hi, hk, by omega, q2.symm, ?_, ?_⟩ <;> rw [show ((t.toNat : Nat) : Int) = t by omega] <;> assumption
set_option maxRecDepth 100000 in
theorem Served_j (a : Option Addr) (cap : Nat) (plan : List Int) (hl : plan.length ≤ 1000) : Cv Try.prog 10 [.slice a plan.length cap] (KSl a plan.length cap encI plan) (I ((served plan : Nat) : Int)) := by
  refine Cx_of Try.func10 rfl Try.ntmps10 rfl fun w0 M0 => ?_
  refine JC_seq ?_
  refine JC_region ?_
  refine JL_pd rfl (det_assign rfl) ?_
  refine JL_nil ?_
  refine JE_seq ?_
  refine JC_seq ?_
  refine JC_region ?_
  refine JL_pd rfl (det_assign rfl) ?_
  refine JL_nil ?_
  refine JE_seq ?_
  refine JC_seq ?_
  refine JC_seq ?_
  refine JC_region ?_
  refine JL_pd rfl (det_assign rfl) ?_
  refine JL_nil ?_
  refine JE_seq ?_
  refine JC_block ?_
  -- stop: loop
  refine JC_loopF (γ := Nat) (fun i => i ≤ plan.length) (fun i => [(4, I i), (3, I ((served (plan.take i) : Nat) : Int))]) (fun _ => []) (fun i => plan.length - i) 0 (Nat.zero_le _) (stsub_consI rfl rfl (stsub_consI rfl rfl stsub_nil)) ht_nil ?_
  intro i hi K hK
  dsimp only [List.cons_append, List.nil_append]
  have hcl : served (plan.take i) ≤ plan.length := Nat.le_trans List.countP_le_length (by rw [List.length_take]; omega)
  refine JC_seq ?_
  refine JC_seq ?_
  refine JC_region ?_
  refine JL_pd rfl (det_move rfl) ?_
  refine JL_pd rfl (det_move rfl) ?_
  refine JL_pd rfl (det_len rfl Try.runUnderlying26) ?_
  refine JL_pd rfl (det_lss rfl rfl) ?_
  refine JL_nil ?_
  refine JE_seq ?_
  -- stop: cond
  refine JC_if rfl (fun h1 => ?_) (fun h1 => ?_)
  · have hi2 : i < plan.length := by omega
    have hs := countP_snoc (fun n : Int => decide (0 ≤ n)) plan i hi2
    refine JC_skip ?_
    refine JE_seq ?_
    refine JC_seq ?_
    refine JC_block ?_
    refine JC_seq ?_
    refine JC_region ?_
    refine JL_pd rfl (det_move rfl) ?_
    refine JL_pd rfl (det_move rfl) ?_
    refine JL_dt rfl (det_indexAddr rfl rfl (by first | rfl | omega) (by first | assumption | omega | decide) Try.runUnderlying26 Try.sizeOf3) ?_
    refine JL_dt rfl (det_loadE rfl (by first | assumption | omega | decide) Try.isAgg3 rfl rfl) ?_
    refine JL_pd rfl (det_geq rfl rfl) ?_
    refine JL_nil ?_
    refine JE_seq ?_
    -- stop: cond
    refine JC_if rfl (fun h2 => ?_) (fun h2 => ?_)
    · refine JC_region ?_
      refine JL_pd rfl (det_move rfl) ?_
      refine JL_pd rfl (det_add rfl rfl ⟨by omega, by omega⟩) ?_
      refine JL_pd rfl (det_assign rfl) ?_
      refine JL_nil ?_
      refine JE_block ?_
      refine JE_seq ?_
      refine JC_region ?_
      refine JL_pd rfl (det_move rfl) ?_
      refine JL_pd rfl (det_add rfl rfl ⟨by omega, by omega⟩) ?_
      refine JL_pd rfl (det_assign rfl) ?_
      refine JL_nil ?_
      -- stop: end
      rw [if_pos (decide_eq_true h2)] at hs
      refine JE_roundF hK (i + 1) (by omega) (by omega) (stsub_consI rfl (by omega) (stsub_consI rfl (by unfold served; omega) stsub_nil)) ht_nil
    · refine JC_skip ?_
      refine JE_block ?_
      refine JE_seq ?_
      refine JC_region ?_
      refine JL_pd rfl (det_move rfl) ?_
      refine JL_pd rfl (det_add rfl rfl ⟨by omega, by omega⟩) ?_
      refine JL_pd rfl (det_assign rfl) ?_
      refine JL_nil ?_
      -- stop: end
      rw [if_neg (by rw [decide_eq_false h2]; decide)] at hs
      refine JE_roundF hK (i + 1) (by omega) (by omega) (stsub_consI rfl (by omega) (stsub_consI rfl (by unfold served; omega) stsub_nil)) ht_nil
  · refine JC_exit ?_
    refine JE_seq_exit ?_
    refine JE_then_exit ?_
    refine JE_block_here ?_
    refine JE_seq ?_
    refine JC_seq ?_
    refine JC_region ?_
    refine JL_pd rfl (det_move rfl) ?_
    refine JL_pd rfl (det_assign rfl) ?_
    refine JL_nil ?_
    refine JE_seq ?_
    refine JC_ret ?_
    -- stop: out
    obtain rfl : i = plan.length := by omega
    refine JE_out (.inl rfl) () (results1 Try.results10 (res_tmp rfl)) (by rw [List.take_length]) (List.Perm.refl _) (fun _ _ => trivial)
end Go.Proofs.Ythpkgabckklojaa.En

/- Walks of the reference of lend: the greatest number. -/
namespace Go.Proofs.Ythpkgabckklojaa.En
open Go.RowKit Go.Shelf

end Go.Proofs.Ythpkgabckklojaa.En

/- The statements about lend: the document's first examples. -/
namespace Go.Proofs.Ythpkgabckklojaa.En
open Go.RowKit Go.Shelf

def alH : Hs := ⟨2, [0, 0, 0, 0, 1, 2, 0, 0, 0, 0]⟩
def paL : List Gr := [⟨1, 2, 3, [4, 5]⟩, ⟨2, 4, 4, [5]⟩, ⟨3, 3, 6, [4]⟩, ⟨5, 5, 5, []⟩]
abbrev alX (b : Nat) : Hx := ⟨alH, some ⟨b, 0, none⟩, 10⟩
abbrev paX (q : Nat × Nat × Nat × Nat) : List Gx := [⟨⟨1, 2, 3, [4, 5]⟩, some ⟨q.1, 0, none⟩, 2⟩, ⟨⟨2, 4, 4, [5]⟩, some ⟨q.2.1, 0, none⟩, 1⟩, ⟨⟨3, 3, 6, [4]⟩, some ⟨q.2.2.1, 0, none⟩, 1⟩, ⟨⟨5, 5, 5, []⟩, none, 0⟩]
theorem pa_gs (q : Nat × Nat × Nat × Nat) : gs (paX q) = paL := rfl
theorem al_f : fault alH paL = 0 := by decide +kernel
theorem pa_ft {q : Nat × Nat × Nat × Nat} {w : World} (h1 : KSl (some ⟨q.1, 0, none⟩) 2 2 encI [4, 5] w) (h2 : KSl (some ⟨q.2.1, 0, none⟩) 1 1 encI [5] w) (h3 : KSl (some ⟨q.2.2.1, 0, none⟩) 1 1 encI [4] w) : KFt (paX q) w := by
  intro x hx
  simp only [paX, List.mem_cons, List.not_mem_nil, or_false] at hx
  rcases hx with rfl | rfl | rfl | rfl
  · exact h1
  · exact h2
  · exact h3
  · exact KSl_none w
theorem al_most {p : List Int} (h : ServeOk 2 paL p) : plannedE alH paL p = 0 ∧ 3 ≤ served p ∧ p.length = 4 ∧ ∀ n ∈ p, -1 ≤ n := by
  have V := vld_of al_f
  have hf := serve_facts V.gr h
  have h1 : isPlan alH.lanes paL p = true := by
    unfold isPlan
    rw [Bool.and_eq_true, decide_eq_true_eq, List.all_eq_true]
    refine ⟨fun n hn => inI_iff.2 ?_, hf.n⟩
    have := hf.lane n hn
    show -1 ≤ n ∧ n ≤ 2 - 1
    omega
  have h2 : rightB paL p = true := decide_eq_true hf.right
  refine ⟨by unfold plannedE; rw [if_neg (by rw [al_f]; decide), if_neg (by rw [h1]; decide), if_neg (by rw [h2]; decide)], ?_, hf.n, fun n hn => (hf.lane n hn).1⟩
  have := serve_most hf (q := [0, 1, -1, 0]) rfl (by decide) (by decide +kernel)
  exact this
theorem al_b : boundE (alX 0) paL [3] = .tuple #[I 3, I 0] := by
  unfold boundE
  rw [if_pos (by decide +kernel), show boundL (alX 0).h.lanes.toNat paL [3] = 3 by decide +kernel]; rfl
theorem al_l : laterE (alX 0) paL [0, 1, -1, 0] 2 = (1, 5, 0) := by decide +kernel
theorem al_k : lackE (alX 0) [4, 4, 5, 5] [4, 5] = .tuple #[I 1, I 0] := by
  unfold lackE
  rw [if_neg (by decide +kernel), if_pos (by decide +kernel), show lack (alX 0).h.shoes [4, 4, 5, 5] [4, 5] = 1 by decide +kernel]
theorem wBound_j (b : Nat) (q : Nat × Nat × Nat × Nat) (c : Nat) : Cv Try.prog 9 [.agg #[I 2, .slice (some ⟨b, 0, none⟩) 10 10], .slice (some ⟨q.2.2.2, 0, none⟩) 4 4, .slice (some ⟨c, 0, none⟩) 1 1] (KAnd (KHx (alX b)) (KAnd (KGs (some ⟨q.2.2.2, 0, none⟩) 4 (paX q)) (KSl (some ⟨c, 0, none⟩) 1 1 encI [3]))) (.tuple #[I 3, I 0]) := by
  have h := Bound_jo (alX b) (some ⟨q.2.2.2, 0, none⟩) 4 (paX q) (some ⟨c, 0, none⟩) 1 [3] al_f (by decide)
  rw [pa_gs, show boundE (alX b) paL [3] = boundE (alX 0) paL [3] from rfl, al_b] at h
  exact h
theorem wProve_j (b : Nat) (q : Nat × Nat × Nat × Nat) (c : Nat) (p : List Int) (h : ServeOk 2 paL p) : Cv Try.prog 6 [.agg #[I 2, .slice (some ⟨b, 0, none⟩) 10 10], .slice (some ⟨q.2.2.2, 0, none⟩) 4 4, .slice (some ⟨c, 0, none⟩) 4 4, I 3] (KAnd (KHx (alX b)) (KAnd (KGs (some ⟨q.2.2.2, 0, none⟩) 4 (paX q)) (KSl (some ⟨c, 0, none⟩) 4 4 encI p))) (.bool true) := by
  obtain ⟨h1, h2, h3, h4⟩ := al_most h
  have hp := ProvePlan_j (alX b) (some ⟨q.2.2.2, 0, none⟩) 4 (paX q) (some ⟨c, 0, none⟩) 4 p 3
  rw [pa_gs, h3, decide_eq_true (show plannedE (alX b).h paL p = 0 from h1), decide_eq_true (show (3 : Int) ≤ (served p : Nat) by omega)] at hp
  exact hp
end Go.Proofs.Ythpkgabckklojaa.En

/- The statements about lend: the program's functions of copies; LendServes. -/
namespace Go.Proofs.Ythpkgabckklojaa.En
open Go.RowKit Go.Shelf

abbrev QH := Option Addr × Nat
abbrev QG (xs : List Gx) := Option Addr × Nat × { ys : List Gx // gs ys = gs xs }
theorem qg_len {xs : List Gx} (g : QG xs) : g.2.2.1.length = xs.length := by
  have := congrArg List.length g.2.2.2
  simpa [gs] using this
theorem CheckGroups_c (x : Hx) (q : QH) (xs : List Gx) (g : QG xs) : Cv Try.prog 61 [.agg #[I x.h.lanes, .slice q.1 x.h.shoes.length q.2], .slice g.1 g.2.2.1.length g.2.1] (KAnd (KHx ⟨x.h, q.1, q.2⟩) (KGs g.1 g.2.1 g.2.2.1)) (I (fault x.h (gs xs))) := by
  have h := CheckGroups_j ⟨x.h, q.1, q.2⟩ g.1 g.2.1 g.2.2.1
  rwa [g.2.2.2] at h
theorem Serve_ce (x : Hx) (q : QH) (xs : List Gx) (g : QG xs) (h : fault x.h (gs xs) ≠ 0) : Cv Try.prog 7 [.agg #[I x.h.lanes, .slice q.1 x.h.shoes.length q.2], .slice g.1 g.2.2.1.length g.2.1] (KAnd (KHx ⟨x.h, q.1, q.2⟩) (KGs g.1 g.2.1 g.2.2.1)) (.tuple #[.slice none 0 0, I (fault x.h (gs xs))]) := by
  have h := Serve_je ⟨x.h, q.1, q.2⟩ g.1 g.2.1 g.2.2.1 (by rw [g.2.2.2]; exact h)
  rwa [g.2.2.2] at h
abbrev QS (k : Nat) (l : List Gr) := Nat × { p : List Int // ServeOk k l p }
theorem Serve_c (x : Hx) (q : QH) (xs : List Gx) (g : QG xs) (h : fault x.h (gs xs) = 0) : Cr Try.prog 7 [.agg #[I x.h.lanes, .slice q.1 x.h.shoes.length q.2], .slice g.1 g.2.2.1.length g.2.1] (KAnd (KHx ⟨x.h, q.1, q.2⟩) (KGs g.1 g.2.1 g.2.2.1)) (fun p : QS x.h.lanes.toNat (gs xs) => .tuple #[.slice (some ⟨p.1, 0, none⟩) p.2.1.length p.2.1.length, I 0]) (fun p => KSl (some ⟨p.1, 0, none⟩) p.2.1.length p.2.1.length encI p.2.1) := by
  have h := Serve_jo ⟨x.h, q.1, q.2⟩ g.1 g.2.1 g.2.2.1 (by rw [g.2.2.2]; exact h)
  rw [g.2.2.2] at h
  have hl : ∀ p : QS x.h.lanes.toNat (gs xs), p.2.1.length = g.2.2.1.length := fun p => by rw [qg_len, p.2.2.1]; exact List.length_map _
  exact h.conv (fun p => by rw [hl]) fun p w hw => by rw [hl]; exact hw
theorem ProvePlan_c (x : Hx) (q : QH) (xs : List Gx) (g : QG xs) (plan : List Int) (a : Option Addr) (c : Nat) (many : Int) : Cv Try.prog 6 [.agg #[I x.h.lanes, .slice q.1 x.h.shoes.length q.2], .slice g.1 g.2.2.1.length g.2.1, .slice a plan.length c, I many] (KAnd (KHx ⟨x.h, q.1, q.2⟩) (KAnd (KGs g.1 g.2.1 g.2.2.1) (KSl a plan.length c encI plan))) (.bool (decide (plannedE x.h (gs xs) plan = 0) && decide (many ≤ (served plan : Nat)))) := by
  have h := ProvePlan_j ⟨x.h, q.1, q.2⟩ g.1 g.2.1 g.2.2.1 a c plan many
  rwa [g.2.2.2] at h
theorem Bound_ce (x : Hx) (q : QH) (xs : List Gx) (g : QG xs) (T : List Int) (a : Option Addr) (c : Nat) (h : fault x.h (gs xs) ≠ 0) : Cv Try.prog 9 [.agg #[I x.h.lanes, .slice q.1 x.h.shoes.length q.2], .slice g.1 g.2.2.1.length g.2.1, .slice a T.length c] (KAnd (KHx ⟨x.h, q.1, q.2⟩) (KAnd (KGs g.1 g.2.1 g.2.2.1) (KSl a T.length c encI T))) (.tuple #[I 0, I (fault x.h (gs xs))]) := by
  have h := Bound_je ⟨x.h, q.1, q.2⟩ g.1 g.2.1 g.2.2.1 a c T (by rw [g.2.2.2]; exact h)
  rwa [g.2.2.2] at h
theorem Bound_c (x : Hx) (q : QH) (xs : List Gx) (g : QG xs) (T : List Int) (a : Option Addr) (c : Nat) (h : fault x.h (gs xs) = 0) (hT : T.length ≤ 1000) : Cv Try.prog 9 [.agg #[I x.h.lanes, .slice q.1 x.h.shoes.length q.2], .slice g.1 g.2.2.1.length g.2.1, .slice a T.length c] (KAnd (KHx ⟨x.h, q.1, q.2⟩) (KAnd (KGs g.1 g.2.1 g.2.2.1) (KSl a T.length c encI T))) (boundE x (gs xs) T) := by
  have h := Bound_jo ⟨x.h, q.1, q.2⟩ g.1 g.2.1 g.2.2.1 a c T (by rw [g.2.2.2]; exact h) hT
  rwa [g.2.2.2] at h
theorem IsPlan_ok {x : Hx} {xs : List Gx} {p : List Int} (h : ServeFacts x.h.lanes.toNat (gs xs) p) (hl : 0 ≤ x.h.lanes) : (p.all (fun m => inI m (-1) (x.h.lanes - 1)) && decide (p.length = xs.length)) = true := by
  rw [Bool.and_eq_true, decide_eq_true_eq, List.all_eq_true]
  refine ⟨fun n hn => inI_iff.2 ?_, by rw [h.n]; exact List.length_map _⟩
  have := h.lane n hn
  omega
end Go.Proofs.Ythpkgabckklojaa.En

/- The statements about lend: LendOnce. -/
namespace Go.Proofs.Ythpkgabckklojaa.En
open Go.RowKit Go.Shelf

def encU (n : Int) : List Value := [.int .u16 n]
instance : Rec encU 1 := ⟨fun _ => rfl, by decide⟩
def wordsOk (ws : List Int) : Prop := ∀ x ∈ ws, 0 ≤ x ∧ x ≤ 65535
def wordV (ws : List Int) (at_ : Nat) : Int := if ws.length = 0 then 0 else ws.getD (at_ % ws.length) 0
theorem word_bd {ws : List Int} (h : wordsOk ws) (n : Nat) : 0 ≤ wordV ws n ∧ wordV ws n ≤ 65535 := by
  unfold wordV
  split
  · omega
  · rename_i hne
    have hlt := Nat.mod_lt n (Nat.pos_of_ne_zero hne)
    rw [List.getD_eq_getElem?_getD, List.getElem?_eq_getElem hlt]
    exact h _ (List.getElem_mem hlt)
def readyB (h : Hs) (l : List Gr) : Bool := thinB h l && decide (fault h l = 0)
/-- Plans, with where they lie. -/
structure SL where
  a : Option Addr
  c : Nat
  l : List Int
def encSL (s : SL) : List Value := [.slice s.a s.l.length s.c]
instance : Rec encSL 1 := ⟨fun _ => rfl, by decide⟩
def KSLs (ps : List SL) : World → Prop := fun w => ∀ s ∈ ps, KSl s.a s.l.length s.c encI s.l w
theorem getD_snoc_lt {l : List Int} {v : Int} {m : Nat} (h : m < l.length) : (l ++ [v]).getD m 0 = l.getD m 0 := by
  rw [List.getD_eq_getElem?_getD, List.getD_eq_getElem?_getD, List.getElem?_append_left h]
theorem getD_snoc_eq {l : List Int} {v : Int} {m : Nat} (h : l.length = m) : (l ++ [v]).getD m 0 = v := by
  subst h
  rw [List.getD_eq_getElem?_getD, List.getElem?_append_right (Nat.le_refl _), Nat.sub_self]; rfl
theorem getD_get {l : List Int} {m : Nat} (h : m < l.length) : l.getD m 0 = l[m] := by
  rw [List.getD_eq_getElem?_getD, List.getElem?_eq_getElem h]; rfl
structure GoodP (k : Int) (l : List Gr) (p : List Int) : Prop where
  n : p.length = l.length
  lane : ∀ n ∈ p, -1 ≤ n ∧ n < k
  right : RightZ (l.zip p)
theorem goodP_of {x : Hx} {l : List Gr} {p : List Int} (h : plannedE x.h l p = 0) : GoodP x.h.lanes l p := by
  unfold plannedE at h
  split at h
  · rename_i h1; exact absurd h h1
  · split at h
    · omega
    · split at h
      · omega
      · rename_i h1 h2 h3
        have h2 : isPlan x.h.lanes l p = true := by simpa using h2
        have h3 : rightB l p = true := by simpa using h3
        unfold isPlan at h2
        rw [Bool.and_eq_true, decide_eq_true_eq, List.all_eq_true] at h2
        exact ⟨h2.2, fun n hn => by have := inI_iff.1 (h2.1 n hn); omega, of_decide_eq_true h3⟩
theorem ready_of {h : Hs} {l : List Gr} (q : readyB h l = true) : (h.shoes.length ≤ 14 ∧ l.length ≤ 12 ∧ ∀ g ∈ l, g.feet.length ≤ 10) ∧ fault h l = 0 := by
  unfold readyB at q
  rw [Bool.and_eq_true, decide_eq_true_eq] at q
  exact ⟨thin_lens q.1, q.2⟩
end Go.Proofs.Ythpkgabckklojaa.En

/- Walks of lend: Marks. -/
namespace Go.Proofs.Ythpkgabckklojaa.En
open Go.RowKit Go.Shelf

set_option maxRecDepth 100000 in
theorem between_j (b mb : Nat) (x : Hx) (ga : Option Addr) (gc : Nat) (xs : List Gx) (lo hi : Int) (hn : xs.length ≤ 1000) : Cv Try.prog 32 [pt b, I lo, I hi] (KAnd (KBox b (wkC x ga xs.length gc mb)) (KSl ga xs.length gc encG xs)) (I (btw (gs xs) lo hi)) := by
  unfold wkC
  have hb : btw (gs xs) lo hi = ((xs.countP fun y => decide (lo < y.g.fr) && decide (y.g.hi < hi) : Nat) : Int) := by unfold btw; rw [gs, countP_map']
  refine Cx_of Try.func32 rfl Try.ntmps32 rfl fun w0 M0 => ?_
  refine JC_seq ?_
  refine JC_region ?_
  refine JL_pd rfl (det_assign rfl) ?_
  refine JL_nil ?_
  refine JE_seq ?_
  refine JC_seq ?_
  refine JC_seq ?_
  refine JC_region ?_
  refine JL_pd rfl (det_move rfl) ?_
  refine JL_pd rfl (det_nilCheck rfl) ?_
  refine JL_pd rfl (det_fieldAddr rfl fo_118_1) ?_
  refine JL_dt rfl (det_loadK rfl Try.isAgg29 rfl) ?_
  refine JL_pd rfl (det_len rfl Try.runUnderlying29) ?_
  refine JL_pd rfl (det_move rfl) ?_
  refine JL_nil ?_
  refine JE_seq ?_
  refine JC_block ?_
  -- stop: loop
  refine JC_loopF (γ := Nat) (fun i => i ≤ xs.length) (fun i => [(14, I i), (6, I (((xs.take i).countP fun y => decide (lo < y.g.fr) && decide (y.g.hi < hi) : Nat) : Int))]) (fun _ => []) (fun i => xs.length - i) 0 (Nat.zero_le _) (stsub_consI rfl rfl (stsub_consI rfl rfl stsub_nil)) ht_nil ?_
  intro i hi' K hK
  dsimp only [List.cons_append, List.nil_append]
  have hcl : (xs.take i).countP (fun y => decide (lo < y.g.fr) && decide (y.g.hi < hi)) ≤ xs.length := Nat.le_trans List.countP_le_length (by rw [List.length_take]; omega)
  refine JC_seq ?_
  refine JC_region ?_
  refine JL_pd rfl (det_lss rfl rfl) ?_
  refine JL_nil ?_
  refine JE_seq ?_
  refine JC_seq ?_
  -- stop: cond
  refine JC_if rfl (fun h1 => ?_) (fun h1 => ?_)
  · have hi2 : i < xs.length := by omega
    have hs := countP_snoc (fun y : Gx => decide (lo < y.g.fr) && decide (y.g.hi < hi)) xs i hi2
    refine JC_skip ?_
    refine JE_seq ?_
    refine JC_seq ?_
    refine JC_block ?_
    refine JC_seq ?_
    refine JC_region ?_
    refine JL_dt rfl (det_indexAddr rfl rfl (by first | rfl | omega) (by first | assumption | omega | decide) Try.runUnderlying29 Try.sizeOf34) ?_
    refine JL_dt rfl (det_loadEA rfl (by first | assumption | omega | decide) Try.isAgg34 Try.sizeOf34 rfl rfl rfl) ?_
    refine JL_step rfl rfl rfl (jo_alloc0 Try.zeroValue34 rfl) fun b8 => ?_
    refine JL_step0 rfl rfl (jo_store rfl rfl rfl (by first | (simp only [splice_norm]; done) | (simp only [splice_norm]; rfl) | rfl) Try.sizeOf34 rfl rfl) fun _ => ?_
    refine JL_nil ?_
    refine JE_seq ?_
    refine JC_seq ?_
    refine JC_region ?_
    refine JL_pd rfl (det_move rfl) ?_
    refine JL_pd rfl (det_fieldAddr rfl fo_34_0) ?_
    refine JL_dt rfl (det_loadK rfl Try.isAgg3 rfl) ?_
    refine JL_pd rfl (det_lss rfl rfl) ?_
    refine JL_pd rfl (det_move rfl) ?_
    -- stop: guard 4
    refine JL_join1 6 28 (.bool (decide (lo < xs[i].g.fr) && decide (xs[i].g.hi < hi))) (fun hj => ?_) ?_
    · refine JL_split (d0 := 22) rfl (fun q1 => ?_) (fun q1 => ?_)
      · refine JL_guard rfl rfl q1 ?_
        refine JL_pd rfl (det_fieldAddr rfl fo_34_1) ?_
        refine JL_guard rfl rfl q1 ?_
        refine JL_pd rfl (det_fieldAddr rfl fo_32_1) ?_
        refine JL_guard rfl rfl q1 ?_
        refine JL_dt rfl (det_loadK rfl Try.isAgg3 rfl) ?_
        refine JL_guard rfl rfl q1 ?_
        refine JL_pd rfl (det_move rfl) ?_
        refine JL_guard rfl rfl q1 ?_
        refine JL_pd rfl (det_lss rfl rfl) ?_
        refine JL_pd rfl (det_pick_t rfl q1 rfl) ?_
        exact hj (by kernel_rfl) (stsub_consB rfl (by clear hj; first | rfl | (simp only [q1, Bool.and_true, Bool.true_and, Bool.false_and, Bool.and_false, Bool.or_true, Bool.true_or, Bool.or_false, Bool.false_or, Bool.not_true, Bool.not_false]; done) | (simp [q1]; done) | (simp at q1; done) | (simp [q1] <;> omega) | (exfalso; simp at q1; omega)) stsub_nil)
      · refine JL_skip rfl rfl q1 rfl ?_
        refine JL_skip rfl rfl q1 rfl ?_
        refine JL_skip rfl rfl q1 rfl ?_
        refine JL_skip rfl rfl q1 rfl ?_
        refine JL_skip rfl rfl q1 rfl ?_
        refine JL_pd rfl (det_pick_f rfl q1 rfl) ?_
        exact hj (by kernel_rfl) (stsub_consB rfl (by clear hj; first | rfl | (simp only [q1, Bool.and_true, Bool.true_and, Bool.false_and, Bool.and_false, Bool.or_true, Bool.true_or, Bool.or_false, Bool.false_or, Bool.not_true, Bool.not_false]; done) | (simp [q1]; done) | (simp at q1; done) | (simp [q1] <;> omega) | (exfalso; simp at q1; omega)) stsub_nil)
    refine JL_nil ?_
    refine JE_seq ?_
    -- stop: cond
    refine JC_cond rfl (fun h2 => ?_) (fun h2 => ?_)
    · refine JC_region ?_
      refine JL_pd rfl (det_move rfl) ?_
      refine JL_pd rfl (det_add rfl rfl ⟨by omega, by omega⟩) ?_
      refine JL_pd rfl (det_assign rfl) ?_
      refine JL_nil ?_
      refine JE_block ?_
      refine JE_seq ?_
      refine JC_region ?_
      refine JL_pd rfl (det_add rfl rfl ⟨by omega, by omega⟩) ?_
      refine JL_pd rfl (det_move rfl) ?_
      refine JL_nil ?_
      -- stop: end
      rw [if_pos h2] at hs
      refine JE_roundF hK (i + 1) (by omega) (by omega) (stsub_consI rfl (by omega) (stsub_consI rfl (by omega) stsub_nil)) ht_nil
    · refine JC_skip ?_
      refine JE_block ?_
      refine JE_seq ?_
      refine JC_region ?_
      refine JL_pd rfl (det_add rfl rfl ⟨by omega, by omega⟩) ?_
      refine JL_pd rfl (det_move rfl) ?_
      refine JL_nil ?_
      -- stop: end
      rw [if_neg (by rw [h2]; decide)] at hs
      refine JE_roundF hK (i + 1) (by omega) (by omega) (stsub_consI rfl (by omega) (stsub_consI rfl (by omega) stsub_nil)) ht_nil
  · refine JC_exit ?_
    refine JE_seq_exit ?_
    refine JE_then_exit ?_
    refine JE_block_here ?_
    refine JE_seq ?_
    refine JC_seq ?_
    refine JC_region ?_
    refine JL_pd rfl (det_move rfl) ?_
    refine JL_pd rfl (det_assign rfl) ?_
    refine JL_nil ?_
    refine JE_seq ?_
    refine JC_ret ?_
    -- stop: out
    obtain rfl : i = xs.length := by omega
    refine JE_out (.inl rfl) () (results1 Try.results32 (res_tmp rfl)) (by rw [hb, List.take_length]) (List.Perm.refl _) (fun _ _ => trivial)
set_option maxRecDepth 100000 in
theorem min_j (b : Nat) (x y : Int) : Cv Try.prog 66 [.slice (some ⟨b, 0, none⟩) 2 2] (KSl (some ⟨b, 0, none⟩) 2 2 encI [x, y]) (I (min x y)) := by
  refine Cx_of Try.func66 rfl Try.ntmps66 rfl fun w0 M0 => ?_
  refine JC_seq ?_
  refine JC_region ?_
  refine JL_pd rfl (det_assign rfl) ?_
  refine JL_nil ?_
  refine JE_seq ?_
  refine JC_seq ?_
  refine JC_seq ?_
  refine JC_region ?_
  refine JL_pd rfl (det_move rfl) ?_
  refine JL_pd rfl (det_len rfl Try.runUnderlying26) ?_
  refine JL_pd rfl (det_lss rfl rfl) ?_
  refine JL_nil ?_
  refine JE_seq ?_
  -- stop: cond
  refine JC_if rfl (fun h0 => ?_) (fun h0 => ?_)
  · exact absurd h0 (by decide)
  refine JC_skip ?_
  refine JE_seq ?_
  refine JC_seq ?_
  refine JC_region ?_
  refine JL_pd rfl (det_move rfl) ?_
  refine JL_dt rfl (det_indexAddr (i := 0) rfl rfl rfl (by decide) Try.runUnderlying26 Try.sizeOf3) ?_
  refine JL_dt rfl (det_loadE (n := 2) (i := 0) (xs := [x, y]) rfl (by decide) Try.isAgg3 rfl rfl) ?_
  refine JL_pd rfl (det_assign rfl) ?_
  refine JL_nil ?_
  refine JE_seq ?_
  refine JC_seq ?_
  refine JC_seq ?_
  refine JC_region ?_
  refine JL_pd rfl (det_assign rfl) ?_
  refine JL_nil ?_
  refine JE_seq ?_
  refine JC_block ?_
  -- stop: loop
  refine JC_loopF (γ := Nat) (fun i => i = 1 ∨ i = 2) (fun i => [(4, I i), (3, I (if i = 1 then x else min x y))]) (fun _ => []) (fun i => 2 - i) 1 (.inl rfl) (stsub_consI rfl rfl (stsub_consI rfl rfl stsub_nil)) ht_nil ?_
  intro i hi K hK
  dsimp only [List.cons_append, List.nil_append]
  refine JC_seq ?_
  refine JC_seq ?_
  refine JC_region ?_
  refine JL_pd rfl (det_move rfl) ?_
  refine JL_pd rfl (det_move rfl) ?_
  refine JL_pd rfl (det_len rfl Try.runUnderlying26) ?_
  refine JL_pd rfl (det_lss rfl rfl) ?_
  refine JL_nil ?_
  refine JE_seq ?_
  -- stop: cond
  refine JC_if rfl (fun h1 => ?_) (fun h1 => ?_)
  · obtain rfl : i = 1 := by omega
    rw [if_pos rfl]
    refine JC_skip ?_
    refine JE_seq ?_
    refine JC_seq ?_
    refine JC_block ?_
    refine JC_region ?_
    refine JL_pd rfl (det_move rfl) ?_
    refine JL_pd rfl (det_move rfl) ?_
    refine JL_pd rfl (det_move rfl) ?_
    refine JL_dt rfl (det_indexAddr rfl rfl (by first | rfl | omega) (by first | assumption | omega | decide) Try.runUnderlying26 Try.sizeOf3) ?_
    refine JL_dt rfl (det_loadE (n := 2) (i := 1) (xs := [x, y]) rfl (by decide) Try.isAgg3 rfl rfl) ?_
    refine JL_pd rfl (det_min rfl rfl) ?_
    refine JL_pd rfl (det_assign rfl) ?_
    refine JL_nil ?_
    refine JE_block ?_
    refine JE_seq ?_
    refine JC_region ?_
    refine JL_pd rfl (det_move rfl) ?_
    refine JL_pd rfl (det_add rfl rfl ⟨by omega, by omega⟩) ?_
    refine JL_pd rfl (det_assign rfl) ?_
    refine JL_nil ?_
    -- stop: end
    refine JE_roundF hK 2 (.inr rfl) (by omega) (stsub_consI rfl (by decide) (stsub_consI rfl rfl stsub_nil)) ht_nil
  · obtain rfl : i = 2 := by omega
    refine JC_exit ?_
    refine JE_seq_exit ?_
    refine JE_then_exit ?_
    refine JE_block_here ?_
    refine JE_seq ?_
    refine JC_seq ?_
    refine JC_region ?_
    refine JL_pd rfl (det_move rfl) ?_
    refine JL_pd rfl (det_assign rfl) ?_
    refine JL_nil ?_
    refine JE_seq ?_
    refine JC_ret ?_
    -- stop: out
    refine JE_out (.inl rfl) () (results1 Try.results66 (res_tmp rfl)) (by rw [if_neg (by decide)]) (List.Perm.refl _) (fun _ _ => trivial)
theorem least_j (b : Nat) (x y : Int) : Cv Try.prog 33 [.slice (some ⟨b, 0, none⟩) 2 2] (KSl (some ⟨b, 0, none⟩) 2 2 encI [x, y]) (I (min x y)) := by
  refine Cx_of Try.func33 rfl Try.ntmps33 rfl fun w0 M0 => ?_
  refine JC_seq ?_
  refine JC_region ?_
  refine JL_pd rfl (det_assign rfl) ?_
  refine JL_nil ?_
  refine JE_seq ?_
  refine JC_seq ?_
  refine JC_region ?_
  refine JL_pd rfl (det_move rfl) ?_
  refine JL_step rfl rfl rfl (jo_callv rfl rfl Try.call66 rfl (min_j b x y)) fun _ => ?_
  refine JL_pd rfl (det_assign rfl) ?_
  refine JL_nil ?_
  refine JE_seq ?_
  refine JC_ret ?_
  -- stop: out
  refine JE_out (.inl rfl) () (results1 Try.results33 (res_tmp rfl)) rfl (List.Perm.refl _) (fun _ _ => trivial)
theorem least_x (b : Nat) (x y : Int) : Cx Try.prog 33 [.slice (some ⟨b, 0, none⟩) 2 2] [bx b [I x, I y]] KTrue (fun _ : Unit => I (min x y)) (fun _ => [bx b [I x, I y]]) (fun _ => KTrue) :=
  Cx.lend (bx b [I x, I y]) ((least_j b x y).mono (fun w hw => KSl_of_box2 (xs := [x, y]) rfl rfl (by decide) hw.1) fun _ _ h => h)
theorem btw_bd (l : List Gr) (a b : Int) : 0 ≤ btw l a b ∧ btw l a b ≤ l.length := by
  unfold btw
  have := List.countP_le_length (p := fun g : Gr => decide (a < g.fr) && decide (g.hi < b)) (l := l)
  omega
theorem choV_bd {k : Int} (hk : 0 ≤ k) (l : List Gr) : ∀ (n : Nat) (m : Int), -1 ≤ m → m ≤ 30 → (30 - m).toNat ≤ n → 0 ≤ (choV k l m).1 ∧ (choV k l m).1 ≤ l.length
  | n, m, h1, h2, hn => by
    obtain ⟨s1, s2, _⟩ := choN_spec k l m (30 - m).toNat
    rw [← choV_eq k l h1 h2] at s1 s2
    have hb := btw_bd l m 31
    refine ⟨?_, by omega⟩
    rcases s1 with ⟨e, _⟩ | ⟨i, hi, _, e⟩
    · omega
    · cases n with
      | zero => omega
      | succ n =>
        have := choV_bd hk l n (m + 1 + i) (by omega) (by omega) (by omega)
        have := btw_bd l m (m + 1 + i)
        omega
theorem choN_bd {k : Int} (hk : 0 ≤ k) (l : List Gr) (m : Int) (h1 : -1 ≤ m) (j : Nat) (h2 : m + j ≤ 30) : 0 ≤ (choN k l m j).1 ∧ (choN k l m j).1 ≤ l.length := by
  obtain ⟨s1, s2, _⟩ := choN_spec k l m j
  have hb := btw_bd l m 31
  refine ⟨?_, by omega⟩
  rcases s1 with ⟨e, _⟩ | ⟨i, hi, _, e⟩
  · omega
  · have := choV_bd hk l 31 (m + 1 + i) (by omega) (by omega) (by omega)
    have := btw_bd l m (m + 1 + i)
    omega
def evCh (c : Int × Int) : Value := .agg #[I c.1, I c.2]
def GoodKn (k : Int) (l : List Gr) (kn : Int → Option (Int × Int)) : Prop := ∀ m c, kn m = some c → c = choV k l m
theorem GoodKn.upd' {k : Int} {l : List Gr} {kn : Int → Option (Int × Int)} (h : GoodKn k l kn) {m : Int} {c : Int × Int} (hc : c = choV k l m) : GoodKn k l (upd kn m c) := fun m' c' h' => by
  unfold upd at h'
  split at h'
  · rename_i e; subst e; cases h'; exact hc
  · exact h m' c' h'
set_option maxRecDepth 100000 in
set_option maxHeartbeats 1000000 in
theorem from_j (x : Hx) (ga : Option Addr) (gc : Nat) (xs : List Gx) (kb mm wp wb wm hb fb : Nat) (hl : 0 ≤ x.h.lanes ∧ x.h.lanes ≤ 5) (hn : xs.length ≤ 8) : ∀ (n : Nat) (m : Int) (kn : Int → Option (Int × Int)), -1 ≤ m → m ≤ 30 → (30 - m).toNat = n → GoodKn x.h.lanes (gs xs) kn →
    Cx Try.prog 31 [I m, pt kb, pt wp, pt hb, pt fb] [mp mm ekI evCh kn] (KAnd (KBox kb [.map (some mm)]) (KAnd (KBox wp [pt wb]) (KAnd (KBox hb [I x.h.lanes, .slice x.a x.h.shoes.length x.c]) (KAnd (KBox fb [.func (.func 31) #[] #[pt kb, pt wp, pt hb, pt fb]]) (KAnd (KBox wb (wkC x ga xs.length gc wm)) (KSl ga xs.length gc encG xs))))))
      (fun _ : { kn' // GoodKn x.h.lanes (gs xs) kn' } => .agg #[I (choV x.h.lanes (gs xs) m).1, I (choV x.h.lanes (gs xs) m).2]) (fun q => [mp mm ekI evCh q.1]) (fun _ => KTrue) := by
  intro n
  induction n using Nat.strongRecOn
  rename_i n IH
  intro m kn hm1 hm2 hmn hg
  have hgl : (gs xs).length = xs.length := List.length_map _
  cases hkm : kn m with
  | some c =>
    have hc := hg m c hkm
    subst hc
    refine Cx_of Try.func31 rfl Try.ntmps31 rfl fun w0 M0 => ?_
    refine JC_seq ?_
    refine JC_region ?_
    refine JL_step rfl rfl rfl (jo_alloc0 Try.zeroValue77 rfl) fun b6 => ?_
    refine JL_nil ?_
    refine JE_seq ?_
    refine JC_seq ?_
    refine JC_seq ?_
    refine JC_region ?_
    refine JL_dt rfl (det_loadK rfl Try.isAgg74 rfl) ?_
    refine JL_pd rfl (det_move rfl) ?_
    refine JL_dt rfl (det_lookup2S (ek := ekI) (ev := evCh) (key := m) hkm rfl rfl (goodI Try.underlying3) Try.underlying74 Try.zeroValue77) ?_
    refine JL_pd rfl (det_move rfl) ?_
    refine JL_pd rfl (det_extract rfl rfl) ?_
    refine JL_pd rfl (det_extract rfl rfl) ?_
    refine JL_step rfl rfl rfl (jo_alloc0 Try.zeroValue77 rfl) fun b7 => ?_
    refine JL_step0 rfl rfl (jo_store rfl rfl rfl (by first | (simp only [splice_norm]; done) | (simp only [splice_norm]; rfl) | rfl) Try.sizeOf77 rfl rfl) fun _ => ?_
    refine JL_pd rfl (det_assign rfl) ?_
    refine JL_nil ?_
    refine JE_seq ?_
    refine JC_seq ?_
    refine JC_region ?_
    refine JL_pd rfl (det_move rfl) ?_
    refine JL_nil ?_
    refine JE_seq ?_
    -- stop: cond
    refine JC_cond rfl (fun h1 => ?_) (fun h1 => ?_)
    · refine JC_seq ?_
      refine JC_region ?_
      refine JL_dt rfl (det_loadKA rfl Try.isAgg77 Try.sizeOf77 rfl rfl) ?_
      refine JL_step0 rfl rfl (jo_store rfl rfl rfl (by first | (simp only [splice_norm]; done) | (simp only [splice_norm]; rfl) | rfl) Try.sizeOf77 rfl rfl) fun _ => ?_
      refine JL_nil ?_
      refine JE_seq ?_
      refine JC_ret ?_
      refine JE_seq_ret ?_
      -- stop: out
      refine JE_out (.inl rfl) ⟨kn, hg⟩ (results1 Try.results31 (res_box rfl Try.isAgg77 Try.sizeOf77 rfl)) rfl pick_perm (fun _ _ => trivial)
    · cases h1
  | none =>
    refine Cx_of Try.func31 rfl Try.ntmps31 rfl fun w0 M0 => ?_
    refine JC_seq ?_
    refine JC_region ?_
    refine JL_step rfl rfl rfl (jo_alloc0 Try.zeroValue77 rfl) fun b6 => ?_
    refine JL_nil ?_
    refine JE_seq ?_
    refine JC_seq ?_
    refine JC_seq ?_
    refine JC_region ?_
    refine JL_dt rfl (det_loadK rfl Try.isAgg74 rfl) ?_
    refine JL_pd rfl (det_move rfl) ?_
    refine JL_dt rfl (det_lookup2N (ek := ekI) (ev := evCh) (key := m) hkm rfl rfl (goodI Try.underlying3) Try.underlying74 Try.zeroValue77) ?_
    refine JL_pd rfl (det_move rfl) ?_
    refine JL_pd rfl (det_extract rfl rfl) ?_
    refine JL_pd rfl (det_extract rfl rfl) ?_
    refine JL_step rfl rfl rfl (jo_alloc0 Try.zeroValue77 rfl) fun b7 => ?_
    refine JL_step0 rfl rfl (jo_store rfl rfl rfl (by first | (simp only [splice_norm]; done) | (simp only [splice_norm]; rfl) | rfl) Try.sizeOf77 rfl rfl) fun _ => ?_
    refine JL_pd rfl (det_assign rfl) ?_
    refine JL_nil ?_
    refine JE_seq ?_
    refine JC_seq ?_
    refine JC_region ?_
    refine JL_pd rfl (det_move rfl) ?_
    refine JL_nil ?_
    refine JE_seq ?_
    -- stop: cond
    refine JC_cond rfl (fun h1 => ?_) (fun h1 => ?_)
    · cases h1
    refine JC_skip ?_
    refine JE_seq ?_
    refine JC_seq ?_
    refine JC_region ?_
    refine JL_dt rfl (det_loadK rfl Try.isAgg65 rfl) ?_
    refine JL_pd rfl (det_move rfl) ?_
    refine JL_step rfl rfl rfl (jo_callv rfl rfl Try.call32 rfl (between_j wb wm x ga gc xs _ _ (by omega))) fun _ => ?_
    refine JL_pd rfl (det_build rfl (bld_77_0_1 _ _)) ?_
    refine JL_step rfl rfl rfl (jo_alloc0 Try.zeroValue77 rfl) fun b9 => ?_
    refine JL_step0 rfl rfl (jo_store rfl rfl rfl (by first | (simp only [splice_norm]; done) | (simp only [splice_norm]; rfl) | rfl) Try.sizeOf77 rfl rfl) fun _ => ?_
    refine JL_nil ?_
    refine JE_seq ?_
    refine JC_seq ?_
    refine JC_seq ?_
    refine JC_region ?_
    refine JL_pd rfl (det_move rfl) ?_
    refine JL_pd rfl (det_add rfl rfl ⟨by omega, by omega⟩) ?_
    refine JL_pd rfl (det_assign rfl) ?_
    refine JL_nil ?_
    refine JE_seq ?_
    refine JC_block ?_
    -- stop: loop
    refine JC_loopF (γ := Nat × { kn' // GoodKn x.h.lanes (gs xs) kn' }) (fun q => q.1 ≤ (30 - m).toNat) (fun q => [(10, I (m + 1 + q.1))]) (fun q => [bx b9 [I (choN x.h.lanes (gs xs) m q.1).1, I (choN x.h.lanes (gs xs) m q.1).2], mp mm ekI evCh q.2.1]) (fun q => (30 - m).toNat - q.1) (0, ⟨kn, hg⟩) (Nat.zero_le _) (stsub_consI rfl (by simp) stsub_nil) (ht_bx rfl (ht_cons ht_nil)) ?_
    rintro ⟨j, kn2, hg2⟩ hj K hK
    dsimp only [List.cons_append, List.nil_append] at hj ⊢
    refine JC_seq ?_
    refine JC_seq ?_
    refine JC_region ?_
    refine JL_pd rfl (det_move rfl) ?_
    refine JL_pd rfl (det_lss rfl rfl) ?_
    refine JL_nil ?_
    refine JE_seq ?_
    -- stop: cond
    refine JC_if rfl (fun h2 => ?_) (fun h2 => ?_)
    · have hj2 : m + 1 + j ≤ 30 := by omega
      have hbd := choV_bd hl.1 (gs xs) 31 (m + 1 + j) (by omega) hj2 (by omega)
      have hbn := choN_bd hl.1 (gs xs) m hm1 j (by omega)
      have hbt := btw_bd (gs xs) m (m + 1 + j)
      refine JC_skip ?_
      refine JE_seq ?_
      refine JC_seq ?_
      refine JC_block ?_
      refine JC_seq ?_
      refine JC_draw0 (by kernel_rfl) ?_
      refine JA_dt (i := 0) rfl (by kernel_rfl) (by kernel_rfl) rfl rfl (det_loadK rfl Try.isAgg65 rfl) ?_
      refine JA_pd (i := 1) rfl (by kernel_rfl) rfl rfl (det_move rfl) ?_
      refine JA_pd (i := 2) rfl (by kernel_rfl) rfl rfl (det_move rfl) ?_
      refine JA_pd (i := 4) rfl (by kernel_rfl) rfl rfl (det_fieldAddr rfl fo_28_0) ?_
      refine JA_dt (i := 5) rfl (by kernel_rfl) (by kernel_rfl) rfl rfl (det_loadK rfl Try.isAgg3 rfl) ?_
      refine JA_dt (i := 7) rfl (by kernel_rfl) (by kernel_rfl) rfl rfl (det_loadK rfl Try.isAgg75 rfl) ?_
      refine JA_pd (i := 8) rfl (by kernel_rfl) rfl rfl (det_move rfl) ?_
      refine JA_oneH (i := 3) (by kernel_rfl) rfl rfl (jo_callv rfl rfl Try.call32 rfl (between_j wb wm x ga gc xs _ _ (by omega))) (fun _ => ⟨HIn.sub, Knows.know⟩) fun _ => ?_
      refine JA_pd (i := 6) rfl (by kernel_rfl) rfl rfl (det_add rfl rfl ⟨by omega, by omega⟩) ?_
      -- stop: op  9 t39 := (call (Call (value t37) (t38) (3)))   <7 8 3>   256
      refine JA_oneH (i := 9) (by kernel_rfl) rfl rfl (jo_callx rfl rfl Try.call31 rfl (IH (30 - (m + 1 + j)).toNat (by omega) (m + 1 + j) kn2 (by omega) hj2 rfl hg2) (pick_perm)) (fun _ => ⟨HIn.sub, Knows.know⟩) fun q => ?_
      refine JA_pd (i := 10) rfl (by kernel_rfl) rfl rfl (det_field rfl (fld_77_0 _ _)) ?_
      refine JA_pd (i := 11) rfl (by kernel_rfl) rfl rfl (det_add rfl rfl ⟨by omega, by omega⟩) ?_
      refine JA_pd (i := 12) rfl (by kernel_rfl) rfl rfl (det_assign rfl) ?_
      refine JA_done (by kernel_rfl) ?_
      refine JE_seq ?_
      refine JC_seq ?_
      refine JC_region ?_
      refine JL_pd rfl (det_move rfl) ?_
      refine JL_pd rfl (det_move rfl) ?_
      refine JL_pd rfl (det_fieldAddr rfl fo_77_0) ?_
      refine JL_dt rfl (det_loadK rfl Try.isAgg3 rfl) ?_
      refine JL_pd rfl (det_sub rfl rfl ⟨by omega, by omega⟩) ?_
      refine JL_step rfl rfl rfl (jo_buildSlice rfl (bsl_26_2_0_1 _ _)) fun b47 => ?_
      refine JL_step rfl rfl rfl (jo_callx rfl rfl Try.call33 rfl (least_x b47 (btw (gs xs) m (m + 1 + j) + x.h.lanes + (choV x.h.lanes (gs xs) (m + 1 + j)).1) ((choN x.h.lanes (gs xs) m j).1 - 1)) (pick_perm)) fun x48 => ?_
      refine JL_pd rfl (det_eql rfl rfl) ?_
      refine JL_nil ?_
      refine JE_seq ?_
      -- stop: cond
      refine JC_if rfl (fun h3 => ?_) (fun h3 => ?_)
      · have hcn : choN x.h.lanes (gs xs) m (j + 1) = (btw (gs xs) m (m + 1 + j) + x.h.lanes + (choV x.h.lanes (gs xs) (m + 1 + j)).1, m + 1 + j) := by
          conv => lhs; unfold choN
          rw [if_pos (by omega)]
        refine JC_region ?_
        refine JL_pd rfl (det_move rfl) ?_
        refine JL_pd rfl (det_move rfl) ?_
        refine JL_pd rfl (det_build rfl (bld_77_0_1 _ _)) ?_
        refine JL_step0 rfl rfl (jo_store rfl rfl rfl (by first | (simp only [splice_norm]; done) | (simp only [splice_norm]; rfl) | rfl) Try.sizeOf77 rfl rfl) fun _ => ?_
        refine JL_nil ?_
        refine JE_block ?_
        refine JE_seq ?_
        refine JC_region ?_
        refine JL_pd rfl (det_move rfl) ?_
        refine JL_pd rfl (det_add rfl rfl ⟨by omega, by omega⟩) ?_
        refine JL_pd rfl (det_assign rfl) ?_
        refine JL_nil ?_
        -- stop: end
        refine JE_roundF hK (j + 1, q) (by simp only; omega) (by simp only; omega) (stsub_consI rfl (by simp only; omega) stsub_nil) (ht_bx (by simp only; rw [hcn]) (ht_cons ht_nil))
      · have hcn : choN x.h.lanes (gs xs) m (j + 1) = choN x.h.lanes (gs xs) m j := by
          conv => lhs; unfold choN
          rw [if_neg (by omega)]
        refine JC_skip ?_
        refine JE_block ?_
        refine JE_seq ?_
        refine JC_region ?_
        refine JL_pd rfl (det_move rfl) ?_
        refine JL_pd rfl (det_add rfl rfl ⟨by omega, by omega⟩) ?_
        refine JL_pd rfl (det_assign rfl) ?_
        refine JL_nil ?_
        -- stop: end
        refine JE_roundF hK (j + 1, q) (by simp only; omega) (by simp only; omega) (stsub_consI rfl (by simp only; omega) stsub_nil) (ht_bx (by simp only; rw [hcn]) (ht_cons ht_nil))
    · have hj2 : j = (30 - m).toNat := by omega
      have hch := choV_eq x.h.lanes (gs xs) hm1 hm2
      subst hj2
      rw [← hch]
      refine JC_exit ?_
      refine JE_seq_exit ?_
      refine JE_then_exit ?_
      refine JE_block_here ?_
      refine JE_seq ?_
      refine JC_seq ?_
      refine JC_region ?_
      refine JL_dt rfl (det_loadK rfl Try.isAgg74 rfl) ?_
      refine JL_pd rfl (det_move rfl) ?_
      refine JL_dt rfl (det_loadKA rfl Try.isAgg77 Try.sizeOf77 rfl rfl) ?_
      refine JL_step0 rfl rfl (jo_mapUpdate (ek := ekI) (ev := evCh) m (choV x.h.lanes (gs xs) m) (.inl rfl) rfl rfl rfl (goodI Try.underlying3) Try.underlying74) fun _ => ?_
      refine JL_nil ?_
      refine JE_seq ?_
      refine JC_seq ?_
      refine JC_region ?_
      refine JL_dt rfl (det_loadKA rfl Try.isAgg77 Try.sizeOf77 rfl rfl) ?_
      refine JL_step0 rfl rfl (jo_store rfl rfl rfl (by first | (simp only [splice_norm]; done) | (simp only [splice_norm]; rfl) | rfl) Try.sizeOf77 rfl rfl) fun _ => ?_
      refine JL_nil ?_
      refine JE_seq ?_
      refine JC_ret ?_
      -- stop: out
      refine JE_out (.inl rfl) ⟨upd kn2 m (choV x.h.lanes (gs xs) m), hg2.upd' rfl⟩ (results1 Try.results31 (res_box rfl Try.isAgg77 Try.sizeOf77 rfl)) rfl pick_perm (fun _ _ => trivial)
end Go.Proofs.Ythpkgabckklojaa.En

/- Walks of lend: Marks. -/
namespace Go.Proofs.Ythpkgabckklojaa.En
open Go.RowKit Go.Shelf

theorem markL_fuel (k : Int) (l : List Gr) : ∀ (n n' : Nat) (m : Int), -1 ≤ m → m ≤ 30 → 30 - m ≤ (n : Int) → 30 - m ≤ (n' : Int) → markL k l n m = markL k l n' m
  | 0, 0, m, _, _, _, _ => rfl
  | 0, n' + 1, m, h1, h2, h3, _ => by
    have := choV_next k l h1 h2
    unfold markL
    rw [if_neg (by omega)]
  | n + 1, 0, m, h1, h2, _, h4 => by
    have := choV_next k l h1 h2
    unfold markL
    rw [if_neg (by omega)]
  | n + 1, n' + 1, m, h1, h2, h3, h4 => by
    have := choV_next k l h1 h2
    unfold markL
    by_cases h : (choV k l m).2 < 31
    · rw [if_pos h, if_pos h, markL_fuel k l n n' (choV k l m).2 (by omega) (by omega) (by omega) (by omega)]
    · rw [if_neg h, if_neg h]
/-- The marks from one on. -/
def tailM (k : Int) (l : List Gr) (at_ : Int) : List Int := if at_ < 31 then at_ :: markL k l 31 at_ else []
theorem markL_tail (k : Int) (l : List Gr) {m : Int} (h1 : -1 ≤ m) (h2 : m ≤ 30) : markL k l 31 m = tailM k l (choV k l m).2 := by
  have := choV_next k l h1 h2
  unfold tailM
  conv => lhs; unfold markL
  by_cases h : (choV k l m).2 < 31
  · rw [if_pos h, if_pos h, markL_fuel k l 30 31 (choV k l m).2 (by omega) (by omega) (by omega) (by omega)]
  · rw [if_neg h, if_neg h]
theorem Marks_je (x : Hx) (ga : Option Addr) (gc : Nat) (xs : List Gx) (h : fault x.h (gs xs) ≠ 0) : Cv Try.prog 8 [.agg #[I x.h.lanes, .slice x.a x.h.shoes.length x.c], .slice ga xs.length gc] (KAnd (KHx x) (KGs ga gc xs)) (.tuple #[.slice none 0 0, I (fault x.h (gs xs))]) := by
  refine Cx_of Try.func8 rfl Try.ntmps8 rfl fun w0 M0 => ?_
  refine JC_seq ?_
  refine JC_region ?_
  refine JL_step rfl rfl rfl (jo_box rfl rfl) fun b2 => ?_
  refine JL_pd rfl (det_assign rfl) ?_
  refine JL_pd rfl (det_assign rfl) ?_
  refine JL_nil ?_
  refine JE_seq ?_
  refine JC_seq ?_
  refine JC_region ?_
  refine JL_dt rfl (det_loadKA rfl Try.isAgg28 Try.sizeOf28 rfl rfl) ?_
  refine JL_pd rfl (det_move rfl) ?_
  refine JL_step rfl rfl rfl (jo_callv rfl rfl Try.call25 rfl (work_je x ga gc xs h)) fun _ => ?_
  refine JL_pd rfl (det_move rfl) ?_
  refine JL_pd rfl (det_extract rfl rfl) ?_
  refine JL_pd rfl (det_extract rfl rfl) ?_
  refine JL_step rfl rfl rfl (jo_alloc0 Try.zeroValue65 rfl) fun b6 => ?_
  refine JL_step0 rfl rfl (jo_store rfl rfl rfl (by first | (simp only [splice_norm]; done) | (simp only [splice_norm]; rfl) | rfl) Try.sizeOf65 rfl rfl) fun _ => ?_
  refine JL_pd rfl (det_assign rfl) ?_
  refine JL_nil ?_
  refine JE_seq ?_
  refine JC_seq ?_
  refine JC_seq ?_
  refine JC_region ?_
  refine JL_pd rfl (det_move rfl) ?_
  refine JL_pd rfl (det_neq rfl rfl) ?_
  refine JL_nil ?_
  refine JE_seq ?_
  -- stop: cond
  refine JC_ifn rfl (fun h1 => ?_) (fun h1 => ?_)
  · refine JC_seq ?_
    refine JC_region ?_
    refine JL_pd rfl (det_move rfl) ?_
    refine JL_pd rfl (det_assign rfl) ?_
    refine JL_pd rfl (det_assign rfl) ?_
    refine JL_nil ?_
    refine JE_seq ?_
    refine JC_ret ?_
    refine JE_seq_ret ?_
    -- stop: out
    refine JE_out (.inl rfl) () (results2 Try.results8 (res_tmp rfl) (res_tmp rfl)) rfl (List.Perm.refl _) (fun _ _ => trivial)
  · exact absurd h1 h
set_option maxRecDepth 100000 in
set_option maxHeartbeats 1000000 in
theorem Marks_jo (x : Hx) (ga : Option Addr) (gc : Nat) (xs : List Gx) (h : fault x.h (gs xs) = 0) : Cr Try.prog 8 [.agg #[I x.h.lanes, .slice x.a x.h.shoes.length x.c], .slice ga xs.length gc] (KAnd (KHx x) (KGs ga gc xs)) (fun q : Option Addr × Nat => .tuple #[.slice q.1 (marksV x.h.lanes (gs xs)).length q.2, I 0]) (fun q => KSl q.1 (marksV x.h.lanes (gs xs)).length q.2 encI (marksV x.h.lanes (gs xs))) := by
  have V := vld_of h
  have hl : 0 ≤ x.h.lanes ∧ x.h.lanes ≤ 5 := ⟨V.hs.l0, V.hs.l1⟩
  have hn : xs.length ≤ 8 := by have := V.n; simpa [gs] using this
  refine Cx_of Try.func8 rfl Try.ntmps8 rfl fun w0 M0 => ?_
  refine JC_seq ?_
  refine JC_region ?_
  refine JL_step rfl rfl rfl (jo_box rfl rfl) fun b2 => ?_
  refine JL_pd rfl (det_assign rfl) ?_
  refine JL_pd rfl (det_assign rfl) ?_
  refine JL_nil ?_
  refine JE_seq ?_
  refine JC_seq ?_
  refine JC_region ?_
  refine JL_dt rfl (det_loadKA rfl Try.isAgg28 Try.sizeOf28 rfl rfl) ?_
  refine JL_pd rfl (det_move rfl) ?_
  refine JL_step rfl rfl rfl (jo_call rfl rfl Try.call25 rfl (work_jo x ga gc xs h)) fun x15 => ?_
  refine JL_pd rfl (det_move rfl) ?_
  refine JL_pd rfl (det_extract rfl rfl) ?_
  refine JL_pd rfl (det_extract rfl rfl) ?_
  refine JL_step rfl rfl rfl (jo_alloc0 Try.zeroValue65 rfl) fun b6 => ?_
  refine JL_step0 rfl rfl (jo_store rfl rfl rfl (by first | (simp only [splice_norm]; done) | (simp only [splice_norm]; rfl) | rfl) Try.sizeOf65 rfl rfl) fun _ => ?_
  refine JL_pd rfl (det_assign rfl) ?_
  refine JL_nil ?_
  refine JE_seq ?_
  refine JC_seq ?_
  refine JC_seq ?_
  refine JC_region ?_
  refine JL_pd rfl (det_move rfl) ?_
  refine JL_pd rfl (det_neq rfl rfl) ?_
  refine JL_nil ?_
  refine JE_seq ?_
  -- stop: cond
  refine JC_ifn rfl (fun h1 => ?_) (fun h1 => ?_)
  · exact absurd rfl h1
  refine JC_skip ?_
  refine JE_seq ?_
  refine JC_seq ?_
  refine JC_region ?_
  refine JL_step rfl rfl rfl (jo_makeMap ekI evCh) fun b21 => ?_
  refine JL_step rfl rfl rfl (jo_alloc0 Try.zeroValue74 rfl) fun b8 => ?_
  refine JL_step0 rfl rfl (jo_store rfl rfl rfl (by first | (simp only [splice_norm]; done) | (simp only [splice_norm]; rfl) | rfl) Try.sizeOf74 rfl rfl) fun _ => ?_
  refine JL_nil ?_
  refine JE_seq ?_
  refine JC_seq ?_
  refine JC_region ?_
  refine JL_step rfl rfl rfl (jo_alloc0 Try.zeroValue75 rfl) fun b9 => ?_
  refine JL_nil ?_
  refine JE_seq ?_
  refine JC_seq ?_
  refine JC_region ?_
  refine JL_pd rfl (det_makeFuncE rfl rfl) ?_
  refine JL_step0 rfl rfl (jo_store rfl rfl rfl (by first | (simp only [splice_norm]; done) | (simp only [splice_norm]; rfl) | rfl) Try.sizeOf75 rfl rfl) fun _ => ?_
  refine JL_nil ?_
  refine JE_seq ?_
  refine JC_seq ?_
  refine JC_region ?_
  refine JL_pd rfl (det_assign rfl) ?_
  refine JL_nil ?_
  refine JE_seq ?_
  refine JC_seq ?_
  refine JC_seq ?_
  refine JC_region ?_
  refine JL_keep b9 noFp ?_
  refine JL_keep b8 noFp ?_
  refine JL_keep b6 noFp ?_
  refine JL_keep b2 noFp ?_
  refine JL_dt rfl (det_loadK rfl Try.isAgg75 rfl) ?_
  -- stop: op  1 t24 := (call (Call (value t23) ((neg Int instNegInt 1)) (3)))   <0>   265
  have hfrom := from_j x ga gc xs b8 b21 b6 x15.1 x15.2 b2 b9 hl hn
  refine JL_step rfl rfl rfl (jo_callx rfl rfl Try.call31 rfl (hfrom 31 (-1) (fun _ => none) (by decide) (by decide) rfl (fun _ _ h => by cases h)) (pick_perm)) fun q => ?_
  refine JL_pd rfl (det_field rfl (fld_77_1 _ _)) ?_
  refine JL_pd rfl (det_assign rfl) ?_
  refine JL_nil ?_
  refine JE_seq ?_
  refine JC_block ?_
  -- stop: loop
  refine JC_nil 3 1 ?_
  have hnx := choV_next x.h.lanes (gs xs) (m := -1) (by decide) (by decide)
  refine JC_loopF (γ := Nat × Value × List Int × Int × { kn' // GoodKn x.h.lanes (gs xs) kn' }) (fun q => q.1 ≤ 31 ∧ q.2.2.1.length ≤ q.2.2.2.1.toNat ∧ 0 ≤ q.2.2.2.1 ∧ q.2.2.2.1 ≤ 31 ∧ (31 - q.2.2.2.1).toNat = q.1 ∧ q.2.2.1 ++ tailM x.h.lanes (gs xs) q.2.2.2.1 = marksV x.h.lanes (gs xs)) (fun q => [(11, I q.2.2.2.1), (10, q.2.1)]) (fun q => [ow q.2.1 3 1 q.2.2.1.length (q.2.2.1.flatMap encI), mp b21 ekI evCh q.2.2.2.2.1]) (fun q => q.1) ((31 - (choV x.h.lanes (gs xs) (-1)).2).toNat, .slice none 0 0, [], (choV x.h.lanes (gs xs) (-1)).2, q) ⟨by simp only; omega, Nat.zero_le _, by simp only; omega, by simp only; omega, rfl, (markL_tail _ _ (by decide) (by decide)).symm⟩ (stsub_consI rfl rfl (stsub_cons rfl stsub_nil)) (ht_ow rfl rfl (ht_cons ht_nil)) ?_
  rintro ⟨n, v, ms, at_, kn⟩ ⟨hn1, hml, h01, h02, h03, hms⟩ K hK
  dsimp only [List.cons_append, List.nil_append] at hn1 hml h01 h02 h03 hms ⊢
  refine JC_seq ?_
  refine JC_seq ?_
  refine JC_region ?_
  refine JL_pd rfl (det_move rfl) ?_
  refine JL_pd rfl (det_lss rfl rfl) ?_
  refine JL_nil ?_
  refine JE_seq ?_
  -- stop: cond
  refine JC_if rfl (fun h2 => ?_) (fun h2 => ?_)
  · have hnx := choV_next x.h.lanes (gs xs) (m := at_) (by omega) (by omega)
    have htl : tailM x.h.lanes (gs xs) at_ = at_ :: tailM x.h.lanes (gs xs) (choV x.h.lanes (gs xs) at_).2 := by
      rw [← markL_tail _ _ (by omega) (by omega), tailM, if_pos h2]
    refine JC_skip ?_
    refine JE_seq ?_
    refine JC_seq ?_
    refine JC_block ?_
    refine JC_region ?_
    refine JL_pd rfl (det_move rfl) ?_
    refine JL_pd rfl (det_move rfl) ?_
    refine JL_step rfl rfl rfl (jo_buildSlice rfl (bsl_26_1_0 _)) fun b34 => ?_
    refine JL_step rfl rfl rfl (jo_append el_26 rfl rfl rfl rfl (by omega)) fun b35 => ?_
    refine JL_pd rfl (det_assign rfl) ?_
    refine JL_nil ?_
    refine JE_block ?_
    refine JE_seq ?_
    refine JC_region ?_
    refine JL_dt rfl (det_loadK rfl Try.isAgg75 rfl) ?_
    refine JL_pd rfl (det_move rfl) ?_
    -- stop: op  2 t30 := (call (Call (value t28) (t29) (3)))   <0 1>   265
    refine JL_step rfl rfl rfl (jo_callx rfl rfl Try.call31 rfl (hfrom (30 - at_).toNat at_ kn.1 (by omega) (by omega) rfl kn.2) (pick_perm)) fun q2 => ?_
    refine JL_pd rfl (det_field rfl (fld_77_1 _ _)) ?_
    refine JL_pd rfl (det_assign rfl) ?_
    refine JL_nil ?_
    -- stop: end
    refine JE_roundF hK ((31 - (choV x.h.lanes (gs xs) at_).2).toNat, .slice (some ⟨b35.1, 0, none⟩) (ms.length + 1) b35.2, ms ++ [at_], (choV x.h.lanes (gs xs) at_).2, q2) ⟨by simp only; omega, by simp only [List.length_append, List.length_singleton]; omega, by simp only; omega, by simp only; omega, rfl, by simp only; rw [List.append_assoc, ← hms, htl]; rfl⟩ (by simp only; omega) (stsub_consI rfl rfl (stsub_cons rfl stsub_nil)) (ht_ow (by simp) (by simp [encI]) (ht_cons ht_nil))
  · have hmm : ms = marksV x.h.lanes (gs xs) := by rw [← hms, tailM, if_neg h2, List.append_nil]
    rw [← hmm]
    refine JC_slice (enc := encI) (v := v) ms noFp rfl rfl ?_
    rintro av cv rfl
    refine JC_exit ?_
    refine JE_seq_exit ?_
    refine JE_then_exit ?_
    refine JE_block_here ?_
    refine JE_seq ?_
    refine JC_seq ?_
    refine JC_region ?_
    refine JL_pd rfl (det_move rfl) ?_
    refine JL_pd rfl (det_assign rfl) ?_
    refine JL_pd rfl (det_assign rfl) ?_
    refine JL_nil ?_
    refine JE_seq ?_
    refine JC_ret ?_
    -- stop: out
    refine JE_out (.inl rfl) (av, cv) (results2 Try.results8 (res_tmp rfl) (res_tmp rfl)) rfl (List.Perm.refl _) (fun w h => h.1)
theorem Marks_ce (x : Hx) (q : QH) (xs : List Gx) (g : QG xs) (h : fault x.h (gs xs) ≠ 0) : Cv Try.prog 8 [.agg #[I x.h.lanes, .slice q.1 x.h.shoes.length q.2], .slice g.1 g.2.2.1.length g.2.1] (KAnd (KHx ⟨x.h, q.1, q.2⟩) (KGs g.1 g.2.1 g.2.2.1)) (.tuple #[.slice none 0 0, I (fault x.h (gs xs))]) := by
  have h := Marks_je ⟨x.h, q.1, q.2⟩ g.1 g.2.1 g.2.2.1 (by rw [g.2.2.2]; exact h)
  rwa [g.2.2.2] at h
theorem Marks_c (x : Hx) (q : QH) (xs : List Gx) (g : QG xs) (h : fault x.h (gs xs) = 0) : Cr Try.prog 8 [.agg #[I x.h.lanes, .slice q.1 x.h.shoes.length q.2], .slice g.1 g.2.2.1.length g.2.1] (KAnd (KHx ⟨x.h, q.1, q.2⟩) (KGs g.1 g.2.1 g.2.2.1)) (fun q : QH => .tuple #[.slice q.1 (marksV x.h.lanes (gs xs)).length q.2, I 0]) (fun q => KSl q.1 (marksV x.h.lanes (gs xs)).length q.2 encI (marksV x.h.lanes (gs xs))) := by
  have h := Marks_jo ⟨x.h, q.1, q.2⟩ g.1 g.2.1 g.2.2.1 (by rw [g.2.2.2]; exact h)
  rwa [g.2.2.2] at h
end Go.Proofs.Ythpkgabckklojaa.En

/- The statements about lend: LendBounds, LendProof. -/
namespace Go.Proofs.Ythpkgabckklojaa.En
open Go.RowKit Go.Shelf

theorem perm_zip {α : Type} {L l : List α} (h : L.Perm l) : ∀ vs : List Int, vs.length = L.length → ∃ p : List Int, p.length = l.length ∧ (l.zip p).Perm (L.zip vs) := by
  induction h with
  | nil => intro vs hv; exact ⟨[], rfl, by simp⟩
  | cons a h ih =>
    intro vs hv
    cases vs with
    | nil => simp at hv
    | cons v vs =>
      obtain ⟨p, p1, p2⟩ := ih vs (by simpa using hv)
      exact ⟨v :: p, by simp [p1], p2.cons _⟩
  | swap a b l =>
    intro vs hv
    match vs, hv with
    | v :: u :: vs, hv => exact ⟨u :: v :: vs, by simpa using hv, List.Perm.swap _ _ _⟩
  | trans h1 h2 ih1 ih2 =>
    intro vs hv
    obtain ⟨p, p1, p2⟩ := ih1 vs hv
    obtain ⟨q, q1, q2⟩ := ih2 p p1
    exact ⟨q, q1, q2.trans p2⟩
theorem serve_exists (k : Nat) (l : List Gr) (hV : ∀ g ∈ l, VGr g) : ∃ p, ServeFacts k l p := by
  have hp := List.mergeSort_perm l fun a b => decide (a.hi ≤ b.hi)
  obtain ⟨p, p1, p2⟩ := perm_zip hp (gre (List.replicate k (-1)) (l.mergeSort fun a b => decide (a.hi ≤ b.hi))) (by rw [gre_len])
  have hs := List.pairwise_mergeSort (le := fun a b : Gr => decide (a.hi ≤ b.hi)) (fun a b c h1 h2 => by simp at *; omega) (fun a b => by simp; omega) l
  exact ⟨p, serve_facts hV ⟨p1, _, hs.imp fun h => of_decide_eq_true h, p2⟩⟩
end Go.Proofs.Ythpkgabckklojaa.En

/- The statements about lend: LendBounds, LendProof. -/
namespace Go.Proofs.Ythpkgabckklojaa.En
open Go.RowKit Go.Shelf

theorem marks_risB {k : Nat} {l : List Gr} {p : List Int} (hV : ∀ g ∈ l, VGr g) (h : ServeFacts k l p) : risB (fun n => inI n 0 30) (marksV k l) = true := by
  obtain ⟨m1, m2, _⟩ := marks_facts hV h
  unfold risB
  rw [decide_eq_true m1, Bool.and_true, List.all_eq_true]
  exact fun t ht => inI_iff.2 (m2 t ht)
end Go.Proofs.Ythpkgabckklojaa.En

/- Matches that come round by round, plain: their groups, their plan, how many are served. Nothing is asked. -/
namespace Go.Proofs.Ythpkgabckklojaa.En
open Go.RowKit Go.Shelf

/-- A match of a round is a group. -/
def grp (first each r : Nat) : Gr := ⟨(first + r * each : Nat), (first + r * each : Nat), (first + r * each + each - 1 : Nat), []⟩
def grpL (H first each k : Nat) : List Gr := (List.range k).map fun x => grp first each (x / H)
def plnL (H : Nat) (q : Nat → Nat → Nat) (k : Nat) : List Int := (List.range k).map fun x => ((q (x / H) (x % H) : Nat) : Int)
theorem grpL_len (H first each k : Nat) : (grpL H first each k).length = k := by simp [grpL]
theorem plnL_len (H : Nat) (q : Nat → Nat → Nat) (k : Nat) : (plnL H q k).length = k := by simp [plnL]
/-- How many rounds there are, and how many come. -/
def rdN (n : Nat) : Nat := n - 1 + n % 2
def rdK (n : Nat) : Nat := min (rdN n) (8 / (n / 2))
theorem rdK_iff {n r : Nat} (h : 2 ≤ n ∧ n ≤ 6) (hr : r ≤ rdK n) : r < rdK n ↔ r < rdN n ∧ r * (n / 2) + n / 2 ≤ 8 := by
  obtain ⟨h1, h2⟩ := h
  rcases (by omega : n = 2 ∨ n = 3 ∨ n = 4 ∨ n = 5 ∨ n = 6) with rfl | rfl | rfl | rfl | rfl <;> simp only [rdK, rdN] at hr ⊢ <;> omega
def z10 : List Int := [0, 0, 0, 0, 0, 0, 0, 0, 0, 0]
theorem right_plan {H first each k : Nat} {q : Nat → Nat → Nat} (hH : 0 < H) (he : 0 < each) (hq : ∀ r, r * H < k → Bl.GoodR H H (q r)) : RightZ ((grpL H first each k).zip (plnL H q k)) := by
  unfold grpL plnL RightZ
  rw [List.zip_map']
  rw [List.pairwise_map]
  refine List.Pairwise.imp_of_mem ?_ List.pairwise_lt_range
  intro x y hx hy hxy
  have hx2 := List.mem_range.1 hx
  have hy2 := List.mem_range.1 hy
  rintro ⟨h1, h2, h3, h4⟩
  simp only [grp] at h1 h2 h3 h4
  have hdx := Nat.div_add_mod x H
  have hdy := Nat.div_add_mod y H
  have hmx := Nat.mod_lt x hH
  have hmy := Nat.mod_lt y hH
  by_cases e : x / H = y / H
  · have hr : y / H * H < k := by rw [Nat.mul_comm]; omega
    have hg := hq _ hr
    rw [e] at h2 hdx
    exact (hg (y % H) hmy).2 (x % H) (by omega) (by omega)
  · have hle : x / H ≤ y / H := Nat.div_le_div_right (Nat.le_of_lt hxy)
    have hm : (x / H + 1) * each ≤ y / H * each := Nat.mul_le_mul_right each (by omega)
    rw [Nat.add_mul] at hm
    omega
theorem lanes_plan {H k : Nat} {q : Nat → Nat → Nat} (hH : 0 < H) (hq : ∀ r, r * H < k → Bl.GoodR H H (q r)) : ∀ m ∈ plnL H q k, 0 ≤ m ∧ m < (H : Int) := by
  intro m hm
  unfold plnL at hm
  obtain ⟨x, hx, rfl⟩ := List.mem_map.1 hm
  have hx2 := List.mem_range.1 hx
  have hdx := Nat.div_add_mod x H
  have := (hq (x / H) (by rw [Nat.mul_comm]; omega) (x % H) (Nat.mod_lt x hH)).1
  omega
/-- A plan of less lanes, and marks that prove it. -/
def pln0 (H k : Nat) : List Int := (List.range k).map fun x => if x % H + 1 < H then ((x % H : Nat) : Int) else -1
def mrk0 (first each K : Nat) : List Int := (List.range K).map fun r => ((first + r * each : Nat) : Int)
def hostB (n first each : Nat) : Bool :=
  let H := n / 2; let K := rdK n; let l := grpL H first each (K * H)
  decide (fault ⟨(H : Int), z10⟩ l = 0) && decide (fault ⟨(H : Int) - 1, z10⟩ l = 0) && (rightB l (pln0 H (K * H)) && (pln0 H (K * H)).all fun m => decide (m < ((H - 1 : Nat) : Int))) && decide (served (pln0 H (K * H)) = K * (H - 1)) && decide (boundL (H - 1) l (mrk0 first each K) = K * (H - 1))
theorem host_all : (List.range 5).all (fun n => (List.range 6).all fun f => (List.range 4).all fun e => hostB (2 + n) f (1 + e)) = true := by decide +kernel
theorem host_of {n f e : Nat} (hn : 2 ≤ n ∧ n ≤ 6) (hf : f < 6) (he : 1 ≤ e ∧ e ≤ 4) : hostB n f e = true := by
  have h1 := List.all_eq_true.1 host_all (n - 2) (List.mem_range.2 (by omega))
  have h2 := List.all_eq_true.1 h1 f (List.mem_range.2 hf)
  have h3 := List.all_eq_true.1 h2 (e - 1) (List.mem_range.2 (by omega))
  rwa [show 2 + (n - 2) = n by omega, show 1 + (e - 1) = e by omega] at h3
structure HostOk (n f e : Nat) : Prop where
  all_ : fault ⟨((n / 2 : Nat) : Int), z10⟩ (grpL (n / 2) f e (rdK n * (n / 2))) = 0
  few_ : fault ⟨((n / 2 : Nat) : Int) - 1, z10⟩ (grpL (n / 2) f e (rdK n * (n / 2))) = 0
  due : ∀ p, ServeFacts (n / 2 - 1) (grpL (n / 2) f e (rdK n * (n / 2))) p → served p = rdK n * (n / 2 - 1)
theorem host_ok {n f e : Nat} (hn : 2 ≤ n ∧ n ≤ 6) (hf : f < 6) (he : 1 ≤ e ∧ e ≤ 4) : HostOk n f e := by
  have h := host_of hn hf he
  unfold hostB at h
  simp only [Bool.and_eq_true, decide_eq_true_eq, List.all_eq_true] at h
  obtain ⟨⟨⟨⟨h1, h2⟩, h3, h4⟩, h5⟩, h6⟩ := h
  refine ⟨h1, h2, fun p hp => ?_⟩
  have hlen : (pln0 (n / 2) (rdK n * (n / 2))).length = (grpL (n / 2) f e (rdK n * (n / 2))).length := by simp [pln0, grpL]
  have hge := serve_most hp hlen h4 (of_decide_eq_true h3)
  have hle := right_le hp.n (fun n hn => (hp.lane n hn).2) hp.right (mrk0 f e (rdK n))
  omega
theorem planned_host {n f e : Nat} {q : Nat → Nat → Nat} (hn : 2 ≤ n ∧ n ≤ 6) (hf : f < 6) (he : 1 ≤ e ∧ e ≤ 4) (hq : ∀ r, r < rdN n → Bl.GoodR (n / 2) (n / 2) (q r)) : plannedE ⟨((n / 2 : Nat) : Int), z10⟩ (grpL (n / 2) f e (rdK n * (n / 2))) (plnL (n / 2) q (rdK n * (n / 2))) = 0 ∧ served (plnL (n / 2) q (rdK n * (n / 2))) = rdK n * (n / 2) := by
  have hK : rdK n ≤ rdN n := Nat.min_le_left _ _
  have hH : 0 < n / 2 := by omega
  have hq2 : ∀ r, r * (n / 2) < rdK n * (n / 2) → Bl.GoodR (n / 2) (n / 2) (q r) := fun r hr => hq r (by have := Nat.lt_of_mul_lt_mul_right hr; omega)
  have hl := lanes_plan hH hq2
  refine ⟨?_, ?_⟩
  · unfold plannedE
    rw [if_neg (by rw [(host_ok hn hf he).all_]; decide), if_neg ?_, if_neg ?_]
    · rw [show rightB _ _ = true from decide_eq_true (right_plan hH (by omega) hq2)]; decide
    · rw [Bool.not_eq_false]
      unfold isPlan
      rw [Bool.and_eq_true, decide_eq_true_eq, List.all_eq_true, plnL_len, grpL_len]
      exact ⟨fun m hm => inI_iff.2 (by have := hl m hm; simp only; omega), rfl⟩
  · unfold served
    rw [List.countP_eq_length.2 fun m hm => decide_eq_true (hl m hm).1, plnL_len]
end Go.Proofs.Ythpkgabckklojaa.En

/- The statement TopHosted: two teams, and two groups. -/
namespace Go.Proofs.Ythpkgabckklojaa.En
open Go.RowKit Go.Shelf

def h2L : List Gx := [⟨⟨3, 3, 3, []⟩, none, 0⟩, ⟨⟨3, 3, 3, []⟩, none, 0⟩]
theorem h2_f : fault ⟨1, z10⟩ (gs h2L) = 0 := by decide +kernel
theorem h2_m : marksV 1 (gs h2L) = [3] := by decide +kernel
theorem KFt_nil {xs : List Gx} (h : ∀ x ∈ xs, x.a = none ∧ x.c = 0 ∧ x.g.feet = []) (w : World) : KFt xs w := fun x hx => by
  obtain ⟨h1, h2, h3⟩ := h x hx
  rw [h1, h2, h3]; exact KSl_none w
theorem hMarks_j (b c : Nat) : Cr Try.prog 8 [.agg #[I 1, .slice (some ⟨b, 0, none⟩) 10 10], .slice (some ⟨c, 0, none⟩) 2 2] (KAnd (KSl (some ⟨b, 0, none⟩) 10 10 encI z10) (KSl (some ⟨c, 0, none⟩) 2 2 encG h2L)) (fun q : QH => .tuple #[.slice q.1 1 q.2, I 0]) (fun q => KSl q.1 1 q.2 encI [3]) := by
  have h := Marks_jo ⟨⟨1, z10⟩, some ⟨b, 0, none⟩, 10⟩ (some ⟨c, 0, none⟩) 2 h2L h2_f
  rw [show marksV (⟨⟨1, z10⟩, some ⟨b, 0, none⟩, 10⟩ : Hx).h.lanes (gs h2L) = [3] from h2_m] at h
  exact h.mono (fun w hw => ⟨hw.1, hw.2, KFt_nil (by decide) w⟩) fun _ _ h => h
set_option maxRecDepth 100000 in
set_option maxHeartbeats 1000000 in
theorem hosted_j : Cv Try.prog 11 [] KTrue (.bool true) := by
  have hb := Bl.Build_j 2 1 1 ⟨by omega, by omega⟩ rfl rfl
  refine Cx_of Try.func11 rfl Try.ntmps11 rfl fun w0 M0 => ?_
  refine JC_seq ?_
  refine JC_region ?_
  refine JL_pd rfl (det_assign rfl) ?_
  refine JL_nil ?_
  refine JE_seq ?_
  refine JC_seq ?_
  refine JC_region ?_
  refine JL_step rfl rfl rfl (jo_call rfl rfl Try.call5 rfl (hb)) fun x6 => ?_
  refine JL_pd rfl (det_move rfl) ?_
  refine JL_pd rfl (det_extract rfl rfl) ?_
  refine JL_pd rfl (det_extract rfl rfl) ?_
  refine JL_pd rfl (det_assign rfl) ?_
  refine JL_pd rfl (det_assign rfl) ?_
  refine JL_nil ?_
  refine JE_seq ?_
  refine JC_seq ?_
  refine JC_region ?_
  refine JL_step rfl rfl rfl (jo_makeBox (zv := I 0) (z := 1) (bytes := 8) (n := 10) (z10.flatMap encI) (Bl.made_rep _ (I 0) 10 rfl) rfl rfl rfl Try.underlying26 (by kernel_rfl) (by omega) (by omega)) fun b10 => ?_
  refine JL_pd rfl (det_build rfl (bld_28_0_1 _ _ _ _)) ?_
  refine JL_pd rfl (det_build rfl (bld_32_0_1 _ _)) ?_
  refine JL_pd rfl (det_build rfl (bld_34_0_1 _ _ _)) ?_
  refine JL_pd rfl (det_build rfl (bld_32_0_1 _ _)) ?_
  refine JL_pd rfl (det_build rfl (bld_34_0_1 _ _ _)) ?_
  refine JL_step rfl rfl rfl (jo_buildSlice rfl (bsl_29_2_0_1 _ _ _ _ _ _ _ _ _ _ _ _)) fun b16 => ?_
  refine JL_lit (enc := encI) b10 10 z10 noFp rfl rfl (by decide) ?_
  refine JL_lit (enc := encG) b16 2 h2L noFp rfl rfl (by decide) ?_
  refine JL_step rfl rfl rfl (jo_call rfl rfl Try.call8 rfl (hMarks_j b10 b16)) fun x17 => ?_
  refine JL_pd rfl (det_move rfl) ?_
  refine JL_pd rfl (det_extract rfl rfl) ?_
  refine JL_pd rfl (det_extract rfl rfl) ?_
  refine JL_pd rfl (det_assign rfl) ?_
  refine JL_pd rfl (det_assign rfl) ?_
  refine JL_nil ?_
  refine JE_seq ?_
  refine JC_seq ?_
  -- stop: region
  obtain ⟨oa, oc, ⟨rs, hrs⟩, ⟨q, hq⟩⟩ := x6
  dsimp only
  have hgt := Bl.rs_get (rs := rs) (i := 0) (by omega)
  have hq0 : q 0 0 = 0 := by have := (hq 0 (by decide) 0 (by decide)).1; omega
  have hro : ((Bl.rowM 2 q 1 0).drop (0 * 3)).take 3 = [I 0, I 1, I 0] := by
    rw [Bl.rowM_rec 2 q 1 0 0 (by decide)]
    unfold Bl.mC
    rw [hq0]; rfl
  refine JC_region ?_
  refine JL_pd rfl (det_move rfl) ?_
  refine JL_pd rfl (det_eql rfl rfl) ?_
  refine JL_pd rfl (det_move rfl) ?_
  refine JL_is (d0 := 22) true rfl (by (first | rfl | decide)) (fun h1 => ?_)
  refine JL_guard rfl rfl h1 ?_
  refine JL_pd rfl (det_move rfl) ?_
  refine JL_guard rfl rfl h1 ?_
  refine JL_pd rfl (det_len rfl Try.runUnderlying22) ?_
  refine JL_guard rfl rfl h1 ?_
  refine JL_pd rfl (det_eql rfl rfl) ?_
  refine JL_pd rfl (det_pick_t rfl h1 rfl) ?_
  refine JL_pd rfl (det_move rfl) ?_
  refine JL_is (d0 := 27) true rfl (by (first | rfl | decide)) (fun h2 => ?_)
  refine JL_guard rfl rfl h2 ?_
  refine JL_pd rfl (det_move rfl) ?_
  refine JL_guard rfl rfl h2 ?_
  refine JL_dt rfl (det_indexAddr (n := 1) (i := 0) rfl rfl rfl (by decide) Try.runUnderlying22 Try.sizeOf30) ?_
  refine JL_guard rfl rfl h2 ?_
  refine JL_dt rfl (det_loadE (n := 1) (i := 0) (xs := rs) rfl (by decide) Try.isAgg30 hrs.symm rfl) ?_
  refine JL_guard rfl rfl h2 ?_
  refine JL_pd rfl (det_len rfl Try.runUnderlying30) ?_
  refine JL_guard rfl rfl h2 ?_
  refine JL_pd rfl (det_eql rfl rfl) ?_
  refine JL_pd rfl (det_pick_t rfl h2 rfl) ?_
  refine JL_pd rfl (det_move rfl) ?_
  refine JL_is (d0 := 34) true rfl (by (first | rfl | decide)) (fun h3 => ?_)
  refine JL_guard rfl rfl h3 ?_
  refine JL_pd rfl (det_move rfl) ?_
  refine JL_guard rfl rfl h3 ?_
  refine JL_dt rfl (det_indexAddr (n := 1) (i := 0) rfl rfl rfl (by decide) Try.runUnderlying22 Try.sizeOf30) ?_
  refine JL_guard rfl rfl h3 ?_
  refine JL_dt rfl (det_loadE (n := 1) (i := 0) (xs := rs) rfl (by decide) Try.isAgg30 hrs.symm rfl) ?_
  refine JL_guard rfl rfl h3 ?_
  refine JL_pd rfl (det_indexOwn (i := 0) rfl rfl rfl (by decide) Try.runUnderlying30 Try.sizeOf36) ?_
  refine JL_guard rfl rfl h3 ?_
  refine JL_dt rfl (det_loadQ 0 (vs := [I 0, I 1, I 0]) rfl hgt Try.isAgg36 Try.sizeOf36 hro rfl) ?_
  refine JL_guard rfl rfl h3 ?_
  refine JL_pd rfl (det_build rfl (bld_36_0_1 _ _)) ?_
  refine JL_guard rfl rfl h3 ?_
  refine JL_pd rfl (det_eqlA rfl rfl egt_36 (eqa_36 _ _ _ _ _ _)) ?_
  refine JL_pd rfl (det_pick_t rfl h3 rfl) ?_
  refine JL_pd rfl (det_move rfl) ?_
  refine JL_is (d0 := 43) true rfl (by (first | rfl | decide)) (fun h4 => ?_)
  refine JL_guard rfl rfl h4 ?_
  refine JL_pd rfl (det_move rfl) ?_
  refine JL_guard rfl rfl h4 ?_
  refine JL_pd rfl (det_eql rfl rfl) ?_
  refine JL_pd rfl (det_pick_t rfl h4 rfl) ?_
  refine JL_pd rfl (det_move rfl) ?_
  refine JL_is (d0 := 47) true rfl (by (first | rfl | decide)) (fun h5 => ?_)
  refine JL_guard rfl rfl h5 ?_
  refine JL_pd rfl (det_move rfl) ?_
  refine JL_guard rfl rfl h5 ?_
  refine JL_pd rfl (det_len rfl Try.runUnderlying26) ?_
  refine JL_guard rfl rfl h5 ?_
  refine JL_pd rfl (det_eql rfl rfl) ?_
  refine JL_pd rfl (det_pick_t rfl h5 rfl) ?_
  refine JL_pd rfl (det_move rfl) ?_
  refine JL_is (d0 := 52) true rfl (by (first | rfl | decide)) (fun h6 => ?_)
  refine JL_guard rfl rfl h6 ?_
  refine JL_pd rfl (det_move rfl) ?_
  refine JL_guard rfl rfl h6 ?_
  refine JL_dt rfl (det_indexAddr (n := 1) (i := 0) rfl rfl rfl (by decide) Try.runUnderlying26 Try.sizeOf3) ?_
  refine JL_guard rfl rfl h6 ?_
  refine JL_dt rfl (det_loadE (n := 1) (i := 0) (xs := [3]) rfl (by decide) Try.isAgg3 rfl rfl) ?_
  refine JL_guard rfl rfl h6 ?_
  refine JL_pd rfl (det_eql rfl rfl) ?_
  refine JL_pd rfl (det_pick_t rfl h6 rfl) ?_
  refine JL_pd rfl (det_assign rfl) ?_
  refine JL_nil ?_
  refine JE_seq ?_
  refine JC_ret ?_
  refine JE_out (.inl rfl) () (results1 Try.results11 (res_tmp rfl)) ?_ (List.Perm.refl _) (fun _ _ => trivial)
  rfl
end Go.Proofs.Ythpkgabckklojaa.En

/- The statement TopHosted: the walk. -/
namespace Go.Proofs.Ythpkgabckklojaa.En
open Go.RowKit Go.Shelf

def gxL (H f e k : Nat) : List Gx := (List.range k).map fun x => ⟨grp f e (x / H), none, 0⟩
theorem gxL_len (H f e k : Nat) : (gxL H f e k).length = k := by simp [gxL]
theorem gxL_gs (H f e k : Nat) : gs (gxL H f e k) = grpL H f e k := by simp [gs, gxL, grpL]
theorem gxL_ft (H f e k : Nat) (w : World) : KFt (gxL H f e k) w := KFt_nil (fun x hx => by
  obtain ⟨y, _, rfl⟩ := List.mem_map.1 hx
  exact ⟨rfl, rfl, rfl⟩) w
theorem gxL_snoc {H f e r i : Nat} (hi : i < H) : gxL H f e (r * H + (i + 1)) = gxL H f e (r * H + i) ++ [⟨grp f e r, none, 0⟩] := by
  have h1 : (r * H + i) / H = r := by rw [Nat.mul_comm, Nat.mul_add_div (by omega), Nat.div_eq_of_lt hi, Nat.add_zero]
  unfold gxL
  rw [← Nat.add_assoc, List.range_succ, List.map_append, List.map_cons, List.map_nil, h1]
theorem plnL_snoc {H r i : Nat} {q : Nat → Nat → Nat} (hi : i < H) : plnL H q (r * H + (i + 1)) = plnL H q (r * H + i) ++ [((q r i : Nat) : Int)] := by
  have h1 : (r * H + i) / H = r := by rw [Nat.mul_comm, Nat.mul_add_div (by omega), Nat.div_eq_of_lt hi, Nat.add_zero]
  have h2 : (r * H + i) % H = i := by rw [Nat.mul_comm, Nat.mul_add_mod, Nat.mod_eq_of_lt hi]
  unfold plnL
  rw [← Nat.add_assoc, List.range_succ, List.map_append, List.map_cons, List.map_nil, h1, h2]
theorem grp_cells (f e r : Nat) (he : 1 ≤ e) : [I ((f : Int) + (r : Int) * (e : Int)), I ((f : Int) + (r : Int) * (e : Int)), I ((f : Int) + (r : Int) * (e : Int) + (e : Int) - 1), Value.slice none 0 0] = encG ⟨grp f e r, none, 0⟩ := by
  have h1 : (((f + r * e : Nat)) : Int) = (f : Int) + (r : Int) * (e : Int) := by rw [Int.natCast_add, Int.natCast_mul]
  have h2 : (((f + r * e + e - 1 : Nat)) : Int) = (f : Int) + (r : Int) * (e : Int) + (e : Int) - 1 := by rw [← h1]; omega
  unfold encG grp
  simp only [h1, h2]
  rfl
theorem planned_ofH {x : Hx} {xs : List Gx} {p : List Int} (c : fault x.h (gs xs) = 0) (h : ServeFacts x.h.lanes.toNat (gs xs) p) (hl : 0 ≤ x.h.lanes) : plannedE x.h (gs xs) p = 0 := by
  unfold plannedE
  rw [if_neg (by omega), if_neg (by rw [isPlan_eq, IsPlan_ok h hl]; decide), if_neg (by rw [show rightB (gs xs) p = true from decide_eq_true h.right]; decide)]
theorem marks_lenH {M : List Int} (m1 : M.Pairwise (· < ·)) (m2 : ∀ t ∈ M, 0 ≤ t ∧ t ≤ 30) : M.length ≤ 31 := by
  have hnd : M.Nodup := m1.imp fun h => by omega
  have := nodup_len hnd (l' := (List.range 31).map fun n : Nat => (n : Int)) fun t ht => by
    have := m2 t ht
    exact List.mem_map.2 ⟨t.toNat, List.mem_range.2 (by omega), by omega⟩
  simpa using this
abbrev KHos (b : Nat) (ga : Option Addr) (gc k : Nat) (xs : List Gx) : World → Prop := KAnd (KSl (some ⟨b, 0, none⟩) 10 10 encI z10) (KAnd (KSl ga k gc encG xs) (KFt xs))
theorem kh_of {L : Int} {b gc k : Nat} {ga : Option Addr} {xs : List Gx} (hk : xs.length = k) {w : World} (h : KHos b ga gc k xs w) : KAnd (KHx ⟨⟨L, z10⟩, some ⟨b, 0, none⟩, 10⟩) (KGs ga gc xs) w := ⟨h.1, by rw [hk]; exact h.2.1, h.2.2⟩
theorem ProvePlan_h (L : Int) (b : Nat) (ga : Option Addr) (gc k : Nat) (xs : List Gx) (hk : xs.length = k) (ka : Option Addr) (kc m : Nat) (plan : List Int) (hm : plan.length = m) (many : Int) : Cv Try.prog 6 [.agg #[I L, .slice (some ⟨b, 0, none⟩) 10 10], .slice ga k gc, .slice ka m kc, I many] (KAnd (KHos b ga gc k xs) (KSl ka m kc encI plan)) (.bool (decide (plannedE ⟨L, z10⟩ (gs xs) plan = 0) && decide (many ≤ (served plan : Nat)))) := by
  have h := ProvePlan_j ⟨⟨L, z10⟩, some ⟨b, 0, none⟩, 10⟩ ga gc xs ka kc plan many
  rw [hk, hm] at h
  exact h.mono (fun w hw => ⟨(kh_of (L := L) hk hw.1).1, (kh_of (L := L) hk hw.1).2, hw.2⟩) fun _ _ h => h
theorem Serve_h (L : Int) (b : Nat) (ga : Option Addr) (gc k : Nat) (xs : List Gx) (hk : xs.length = k) (h : fault ⟨L, z10⟩ (gs xs) = 0) : Cr Try.prog 7 [.agg #[I L, .slice (some ⟨b, 0, none⟩) 10 10], .slice ga k gc] (KHos b ga gc k xs) (fun q : Nat × { p : List Int // ServeOk L.toNat (gs xs) p } => .tuple #[.slice (some ⟨q.1, 0, none⟩) k k, I 0]) (fun q => KSl (some ⟨q.1, 0, none⟩) k k encI q.2.1) := by
  have h := Serve_jo ⟨⟨L, z10⟩, some ⟨b, 0, none⟩, 10⟩ ga gc xs h
  rw [hk] at h
  exact h.mono (fun w hw => kh_of (L := L) hk hw) fun _ _ h => h
theorem Marks_h (L : Int) (b : Nat) (ga : Option Addr) (gc k : Nat) (xs : List Gx) (hk : xs.length = k) (h : fault ⟨L, z10⟩ (gs xs) = 0) : Cr Try.prog 8 [.agg #[I L, .slice (some ⟨b, 0, none⟩) 10 10], .slice ga k gc] (KHos b ga gc k xs) (fun q : Option Addr × Nat => .tuple #[.slice q.1 (marksV L (gs xs)).length q.2, I 0]) (fun q => KSl q.1 (marksV L (gs xs)).length q.2 encI (marksV L (gs xs))) := by
  have h := Marks_jo ⟨⟨L, z10⟩, some ⟨b, 0, none⟩, 10⟩ ga gc xs h
  rw [hk] at h
  exact h.mono (fun w hw => kh_of (L := L) hk hw) fun _ _ h => h
theorem Bound_h (L : Int) (b : Nat) (ga : Option Addr) (gc k : Nat) (xs : List Gx) (hk : xs.length = k) (h : fault ⟨L, z10⟩ (gs xs) = 0) (ta : Option Addr) (tc : Nat) (T : List Int) (hT : T.length ≤ 1000) : Cv Try.prog 9 [.agg #[I L, .slice (some ⟨b, 0, none⟩) 10 10], .slice ga k gc, .slice ta T.length tc] (KAnd (KHos b ga gc k xs) (KSl ta T.length tc encI T)) (boundE ⟨⟨L, z10⟩, some ⟨b, 0, none⟩, 10⟩ (gs xs) T) := by
  have h := Bound_jo ⟨⟨L, z10⟩, some ⟨b, 0, none⟩, 10⟩ ga gc xs ta tc T h hT
  rw [hk] at h
  exact h.mono (fun w hw => ⟨(kh_of (L := L) hk hw.1).1, (kh_of (L := L) hk hw.1).2, hw.2⟩) fun _ _ h => h
set_option maxRecDepth 100000 in
set_option maxHeartbeats 2000000 in
set_option synthInstance.maxHeartbeats 1000000 in
set_option synthInstance.maxSize 2000 in
theorem TopHosted_j (te fr lo : Int) (h1 : 0 ≤ te ∧ te ≤ 255) (h2 : 0 ≤ fr ∧ fr ≤ 255) (h3 : 0 ≤ lo ∧ lo ≤ 255) : Cv Try.prog 3 [.int .u8 te, .int .u8 fr, .int .u8 lo] KTrue (.bool true) := by
  obtain ⟨n, hn, hn2⟩ : ∃ n : Nat, 2 + te.tmod 5 = n ∧ 2 ≤ n ∧ n ≤ 6 := ⟨(2 + te.tmod 5).toNat, by rw [Int.tmod_eq_emod_of_nonneg h1.1]; omega, by rw [Int.tmod_eq_emod_of_nonneg h1.1]; omega⟩
  obtain ⟨f, hf, hf2⟩ : ∃ f : Nat, fr.tmod 6 = f ∧ f < 6 := ⟨(fr.tmod 6).toNat, by rw [Int.tmod_eq_emod_of_nonneg h2.1]; omega, by rw [Int.tmod_eq_emod_of_nonneg h2.1]; omega⟩
  obtain ⟨e, he, he2⟩ : ∃ e : Nat, 1 + lo.tmod 4 = e ∧ 1 ≤ e ∧ e ≤ 4 := ⟨(1 + lo.tmod 4).toNat, by rw [Int.tmod_eq_emod_of_nonneg h3.1]; omega, by rw [Int.tmod_eq_emod_of_nonneg h3.1]; omega⟩
  have ht5 : -10 ≤ te.tmod 5 ∧ te.tmod 5 ≤ 10 := by omega
  have hl4 : -10 ≤ lo.tmod 4 ∧ lo.tmod 4 ≤ 10 := by omega
  have hb := Bl.Build_j n (n / 2) (rdN n) hn2 rfl rfl
  have htd := Bl.tdiv2 n
  refine Cx_of Try.func3 rfl Try.ntmps3 rfl fun w0 M0 => ?_
  refine JC_seq ?_
  refine JC_region ?_
  refine JL_pd rfl (det_assign rfl) ?_
  refine JL_nil ?_
  refine JE_seq ?_
  refine JC_seq ?_
  refine JC_region ?_
  refine JL_pd rfl (det_move rfl) ?_
  refine JL_pd rfl (det_convI rfl Try.runUnderlying5 Try.runUnderlying3 (i64_wrap ⟨by omega, by omega⟩)) ?_
  refine JL_pd rfl (det_rem rfl rfl (by omega)) ?_
  refine JL_pd rfl (det_add rfl rfl ⟨by omega, by omega⟩) ?_
  refine JL_pd rfl (det_assign rfl) ?_
  refine JL_nil ?_
  refine JE_seq ?_
  refine JC_seq ?_
  -- stop: region
  rw [hn]
  refine JC_region ?_
  refine JL_pd rfl (det_move rfl) ?_
  refine JL_step rfl rfl rfl (jo_call rfl rfl Try.call5 rfl (hb)) fun x33 => ?_
  refine JL_pd rfl (det_move rfl) ?_
  refine JL_pd rfl (det_extract rfl rfl) ?_
  refine JL_pd rfl (det_extract rfl rfl) ?_
  refine JL_pd rfl (det_assign rfl) ?_
  refine JL_pd rfl (det_assign rfl) ?_
  refine JL_nil ?_
  refine JE_seq ?_
  refine JC_seq ?_
  refine JC_seq ?_
  refine JC_region ?_
  refine JL_pd rfl (det_move rfl) ?_
  refine JL_pd rfl (det_neq rfl rfl) ?_
  refine JL_nil ?_
  refine JE_seq ?_
  -- stop: cond
  refine JC_ifn rfl (fun h4 => ?_) (fun h4 => ?_)
  · exact absurd rfl h4
  refine JC_skip ?_
  refine JE_seq ?_
  refine JC_seq ?_
  refine JC_region ?_
  refine JL_pd rfl (det_move rfl) ?_
  refine JL_pd rfl (det_convI rfl Try.runUnderlying5 Try.runUnderlying3 (i64_wrap ⟨by omega, by omega⟩)) ?_
  refine JL_pd rfl (det_rem rfl rfl (by omega)) ?_
  refine JL_pd rfl (det_move rfl) ?_
  refine JL_pd rfl (det_convI rfl Try.runUnderlying5 Try.runUnderlying3 (i64_wrap ⟨by omega, by omega⟩)) ?_
  refine JL_pd rfl (det_rem rfl rfl (by omega)) ?_
  refine JL_pd rfl (det_add rfl rfl ⟨by omega, by omega⟩) ?_
  refine JL_pd rfl (det_assign rfl) ?_
  refine JL_pd rfl (det_assign rfl) ?_
  refine JL_nil ?_
  refine JE_seq ?_
  refine JC_seq ?_
  refine JC_region ?_
  refine JL_pd rfl (det_move rfl) ?_
  refine JL_pd rfl (det_quo rfl rfl (by omega) ⟨by omega, by omega⟩) ?_
  refine JL_step rfl rfl rfl (jo_makeBox (zv := I 0) (z := 1) (bytes := 8) (n := 10) (z10.flatMap encI) (Bl.made_rep _ (I 0) 10 rfl) rfl rfl rfl Try.underlying26 (by kernel_rfl) (by omega) (by omega)) fun b47 => ?_
  refine JL_pd rfl (det_build rfl (bld_28_0_1 _ _ _ _)) ?_
  refine JL_step rfl rfl rfl (jo_alloc0 Try.zeroValue28 rfl) fun b12 => ?_
  refine JL_step0 rfl rfl (jo_store rfl rfl rfl (by first | (simp only [splice_norm]; done) | (simp only [splice_norm]; rfl) | rfl) Try.sizeOf28 rfl rfl) fun _ => ?_
  refine JL_nil ?_
  refine JE_seq ?_
  refine JC_seq ?_
  refine JC_region ?_
  refine JL_pd rfl (det_move rfl) ?_
  refine JL_pd rfl (det_quo rfl rfl (by omega) ⟨by omega, by omega⟩) ?_
  refine JL_pd rfl (det_sub rfl rfl ⟨by omega, by omega⟩) ?_
  refine JL_step rfl rfl rfl (jo_makeBox (zv := I 0) (z := 1) (bytes := 8) (n := 10) (z10.flatMap encI) (Bl.made_rep _ (I 0) 10 rfl) rfl rfl rfl Try.underlying26 (by kernel_rfl) (by omega) (by omega)) fun b52 => ?_
  refine JL_pd rfl (det_build rfl (bld_28_0_1 _ _ _ _)) ?_
  refine JL_step rfl rfl rfl (jo_alloc0 Try.zeroValue28 rfl) fun b13 => ?_
  refine JL_step0 rfl rfl (jo_store rfl rfl rfl (by first | (simp only [splice_norm]; done) | (simp only [splice_norm]; rfl) | rfl) Try.sizeOf28 rfl rfl) fun _ => ?_
  refine JL_nil ?_
  refine JE_seq ?_
  refine JC_seq ?_
  refine JC_region ?_
  refine JL_pd rfl (det_assign rfl) ?_
  refine JL_nil ?_
  refine JE_seq ?_
  refine JC_seq ?_
  refine JC_region ?_
  refine JL_pd rfl (det_assign rfl) ?_
  refine JL_nil ?_
  refine JE_seq ?_
  refine JC_seq ?_
  refine JC_region ?_
  refine JL_pd rfl (det_assign rfl) ?_
  refine JL_nil ?_
  refine JE_seq ?_
  refine JC_seq ?_
  refine JC_seq ?_
  refine JC_region ?_
  refine JL_pd rfl (det_assign rfl) ?_
  refine JL_nil ?_
  refine JE_seq ?_
  refine JC_block ?_
  -- stop: loop
  rw [hf, he, htd]
  obtain ⟨oa, oc, ⟨rs, hrs⟩, ⟨q, hq⟩⟩ := x33
  dsimp only
  refine JC_lit (enc := encI) b47 10 z10 noFp rfl rfl (by decide) ?_
  refine JC_lit (enc := encI) b52 10 z10 noFp rfl rfl (by decide) ?_
  refine JC_nil 3 1 ?_
  refine JC_nil 34 4 ?_
  obtain ⟨H, hH⟩ : ∃ H, H = n / 2 := ⟨_, rfl⟩
  obtain ⟨K, hK0⟩ : ∃ K, K = rdK n := ⟨_, rfl⟩
  have hKi := fun r (hr : r ≤ K) => rdK_iff (n := n) (r := r) hn2 (hK0 ▸ hr)
  have hKN : K ≤ rdN n := hK0 ▸ Nat.min_le_left _ _
  have hN5 : rdN n ≤ 5 := by unfold rdN; omega
  rw [← hH, ← hK0] at hKi
  rw [← hH] at hq ⊢
  have hH3 : 1 ≤ H ∧ H ≤ 3 := by omega
  refine JC_loopF (γ := Nat × Value × Value) (fun s => s.1 ≤ K) (fun s => [(17, I s.1), (16, I s.1), (14, s.2.1), (15, s.2.2)]) (fun s => [ow s.2.1 34 4 (s.1 * H) ((gxL H f e (s.1 * H)).flatMap encG), ow s.2.2 3 1 (s.1 * H) ((plnL H q (s.1 * H)).flatMap encI)]) (fun s => K - s.1) (0, .slice none 0 0, .slice none 0 0) (Nat.zero_le _) (stsub_consI rfl rfl (stsub_consI rfl rfl (stsub_cons rfl (stsub_cons rfl stsub_nil)))) (ht_ow (by simp) (by simp [gxL]) (ht_ow (by simp) (by simp [plnL]) ht_nil)) ?_
  rintro ⟨r, v, pv⟩ hr K1 hK1
  dsimp only [List.cons_append, List.nil_append] at hr ⊢
  have hrH : r * H ≤ 5 * 3 := Nat.mul_le_mul (by omega) hH3.2
  refine JC_formS v ?_
  rintro ga gc rfl
  refine JC_formS pv ?_
  rintro pa pc rfl
  have hgt := fun h : r < rdN n => Bl.rs_get (rs := rs) (i := r) (by omega)
  refine JC_seq ?_
  refine JC_seq ?_
  refine JC_region ?_
  refine JL_pd rfl (det_move rfl) ?_
  refine JL_pd rfl (det_move rfl) ?_
  refine JL_pd rfl (det_len rfl Try.runUnderlying22) ?_
  refine JL_pd rfl (det_lss rfl rfl) ?_
  refine JL_pd rfl (det_move rfl) ?_
  -- stop: guard 4
  refine JL_join1 10 68 (.bool (decide ((r : Int) < (rdN n : Int)) && decide (((r * H : Nat) : Int) + (H : Int) ≤ 8))) (fun hj => ?_) ?_
  · refine JL_split (d0 := 58) rfl (fun q1 => ?_) (fun q1 => ?_)
    · refine JL_guard rfl rfl q1 ?_
      refine JL_pd rfl (det_move rfl) ?_
      refine JL_guard rfl rfl q1 ?_
      refine JL_pd rfl (det_len rfl Try.runUnderlying29) ?_
      refine JL_guard rfl rfl q1 ?_
      refine JL_pd rfl (det_move rfl) ?_
      refine JL_guard rfl rfl q1 ?_
      refine JL_pd rfl (det_move rfl) ?_
      refine JL_guard rfl rfl q1 ?_
      refine JL_dt rfl (det_indexAddr (n := rdN n) (i := r) rfl rfl rfl (by simp only [decide_eq_true_eq] at *; omega) Try.runUnderlying22 Try.sizeOf30) ?_
      refine JL_guard rfl rfl q1 ?_
      refine JL_dt rfl (det_loadE (n := rdN n) (i := r) (xs := rs) rfl (by simp only [decide_eq_true_eq] at *; omega) Try.isAgg30 hrs.symm rfl) ?_
      refine JL_guard rfl rfl q1 ?_
      refine JL_pd rfl (det_len rfl Try.runUnderlying30) ?_
      refine JL_guard rfl rfl q1 ?_
      refine JL_pd rfl (det_add rfl rfl ⟨by omega, by omega⟩) ?_
      refine JL_guard rfl rfl q1 ?_
      refine JL_pd rfl (det_leq rfl rfl) ?_
      refine JL_pd rfl (det_pick_t rfl q1 rfl) ?_
      exact hj (by kernel_rfl) (stsub_consB rfl (by clear hj; first | rfl | (simp only [q1, Bool.and_true, Bool.true_and, Bool.false_and, Bool.and_false, Bool.or_true, Bool.true_or, Bool.or_false, Bool.false_or, Bool.not_true, Bool.not_false]; done) | (simp [q1]; done) | (simp at q1; done) | (simp [q1] <;> omega) | (exfalso; simp at q1; omega)) stsub_nil)
    · refine JL_skip rfl rfl q1 rfl ?_
      refine JL_skip rfl rfl q1 rfl ?_
      refine JL_skip rfl rfl q1 rfl ?_
      refine JL_skip rfl rfl q1 rfl ?_
      refine JL_skip rfl rfl q1 rfl ?_
      refine JL_skip rfl rfl q1 rfl ?_
      refine JL_skip rfl rfl q1 rfl ?_
      refine JL_skip rfl rfl q1 rfl ?_
      refine JL_skip rfl rfl q1 rfl ?_
      refine JL_pd rfl (det_pick_f rfl q1 rfl) ?_
      exact hj (by kernel_rfl) (stsub_consB rfl (by clear hj; first | rfl | (simp only [q1, Bool.and_true, Bool.true_and, Bool.false_and, Bool.and_false, Bool.or_true, Bool.true_or, Bool.or_false, Bool.false_or, Bool.not_true, Bool.not_false]; done) | (simp [q1]; done) | (simp at q1; done) | (simp [q1] <;> omega) | (exfalso; simp at q1; omega)) stsub_nil)
  refine JL_nil ?_
  refine JE_seq ?_
  -- stop: cond
  refine JC_cond rfl (fun h5 => ?_) (fun h5 => ?_)
  · rw [Bool.and_eq_true, decide_eq_true_eq, decide_eq_true_eq] at h5
    obtain ⟨h6, h7⟩ := h5
    have hrN : r < rdN n := by omega
    have hrK : r < K := (hKi r hr).2 ⟨hrN, by omega⟩
    have hre : r * e ≤ 5 * 4 := Nat.mul_le_mul (by omega) he2.2
    have hrI : (r : Int) * (e : Int) = ((r * e : Nat) : Int) := (Int.natCast_mul r e).symm
    refine JC_skip ?_
    refine JE_seq ?_
    refine JC_seq ?_
    refine JC_block ?_
    refine JC_seq ?_
    refine JC_region ?_
    refine JL_pd rfl (det_move rfl) ?_
    refine JL_pd rfl (det_move rfl) ?_
    refine JL_pd rfl (det_move rfl) ?_
    refine JL_pd rfl (det_mul rfl rfl (show InI _ from ⟨by rw [hrI]; omega, by rw [hrI]; omega⟩)) ?_
    refine JL_pd rfl (det_add rfl rfl ⟨by omega, by omega⟩) ?_
    refine JL_pd rfl (det_assign rfl) ?_
    refine JL_nil ?_
    refine JE_seq ?_
    refine JC_seq ?_
    refine JC_seq ?_
    refine JC_region ?_
    refine JL_pd rfl (det_assign rfl) ?_
    refine JL_nil ?_
    refine JE_seq ?_
    refine JC_block ?_
    -- stop: loop
    refine JC_loopF (γ := Nat × Value × Value) (fun s => s.1 ≤ H) (fun s => [(19, I s.1), (14, s.2.1), (15, s.2.2)]) (fun s => [ow s.2.1 34 4 (r * H + s.1) ((gxL H f e (r * H + s.1)).flatMap encG), ow s.2.2 3 1 (r * H + s.1) ((plnL H q (r * H + s.1)).flatMap encI)]) (fun s => H - s.1) (0, .slice ga (r * H) gc, .slice pa (r * H) pc) (Nat.zero_le _) (stsub_consI rfl rfl (stsub_cons rfl (stsub_cons rfl stsub_nil))) (ht_ow rfl rfl (ht_ow rfl rfl ht_nil)) ?_
    rintro ⟨i, v1, pv1⟩ hi K2 hK2
    dsimp only [List.cons_append, List.nil_append] at hi ⊢
    refine JC_seq ?_
    refine JC_seq ?_
    refine JC_region ?_
    refine JL_pd rfl (det_move rfl) ?_
    refine JL_pd rfl (det_move rfl) ?_
    refine JL_pd rfl (det_move rfl) ?_
    refine JL_dt rfl (det_indexAddr (n := rdN n) (i := r) rfl rfl rfl hrN Try.runUnderlying22 Try.sizeOf30) ?_
    refine JL_dt rfl (det_loadE (n := rdN n) (i := r) (xs := rs) rfl hrN Try.isAgg30 hrs.symm rfl) ?_
    refine JL_pd rfl (det_len rfl Try.runUnderlying30) ?_
    refine JL_pd rfl (det_lss rfl rfl) ?_
    refine JL_nil ?_
    refine JE_seq ?_
    -- stop: cond
    refine JC_if rfl (fun h8 => ?_) (fun h8 => ?_)
    · have hiH : i < H := by omega
      refine JC_skip ?_
      refine JE_seq ?_
      refine JC_seq ?_
      refine JC_block ?_
      refine JC_seq ?_
      refine JC_region ?_
      refine JL_pd rfl (det_move rfl) ?_
      refine JL_pd rfl (det_move rfl) ?_
      refine JL_pd rfl (det_move rfl) ?_
      refine JL_pd rfl (det_move rfl) ?_
      refine JL_pd rfl (det_move rfl) ?_
      refine JL_pd rfl (det_add rfl rfl ⟨by omega, by omega⟩) ?_
      refine JL_pd rfl (det_sub rfl rfl ⟨by omega, by omega⟩) ?_
      refine JL_pd rfl (det_build rfl (bld_32_0_1 _ _)) ?_
      refine JL_pd rfl (det_build rfl (bld_34_0_1 _ _ _)) ?_
      refine JL_step rfl rfl rfl (jo_buildSlice rfl (bsl_29_1_0 _ _ _ _ _ _)) fun b94 => ?_
      refine JL_step rfl rfl rfl (jo_append el_29 rfl rfl rfl rfl (by omega)) fun b95 => ?_
      refine JL_pd rfl (det_assign rfl) ?_
      refine JL_nil ?_
      refine JE_seq ?_
      refine JC_region ?_
      refine JL_pd rfl (det_move rfl) ?_
      refine JL_pd rfl (det_move rfl) ?_
      refine JL_pd rfl (det_move rfl) ?_
      refine JL_dt rfl (det_indexAddr (n := rdN n) (i := r) rfl rfl rfl hrN Try.runUnderlying22 Try.sizeOf30) ?_
      refine JL_dt rfl (det_loadE (n := rdN n) (i := r) (xs := rs) rfl hrN Try.isAgg30 hrs.symm rfl) ?_
      refine JL_pd rfl (det_move rfl) ?_
      refine JL_pd rfl (det_indexOwn (i := i) rfl rfl rfl hiH Try.runUnderlying30 Try.sizeOf36) ?_
      refine JL_pd rfl (det_fieldAddr rfl fo_36_2) ?_
      refine JL_dt rfl (det_loadQ1 r (v := I (q r i)) rfl (hgt hrN) Try.isAgg3 ((Bl.rowM_get n q H r i 2 hiH (by decide)).trans rfl)) ?_
      refine JL_step rfl rfl rfl (jo_buildSlice rfl (bsl_26_1_0 _)) fun b105 => ?_
      refine JL_step rfl rfl rfl (jo_append el_26 rfl rfl rfl rfl (by omega)) fun b106 => ?_
      refine JL_pd rfl (det_assign rfl) ?_
      refine JL_nil ?_
      refine JE_block ?_
      refine JE_seq ?_
      refine JC_region ?_
      refine JL_pd rfl (det_move rfl) ?_
      refine JL_pd rfl (det_add rfl rfl ⟨by omega, by omega⟩) ?_
      refine JL_pd rfl (det_assign rfl) ?_
      refine JL_nil ?_
      -- stop: end
      refine JE_roundF hK2 (i + 1, .slice (some ⟨b95.1, 0, none⟩) (r * H + i + 1) b95.2, .slice (some ⟨b106.1, 0, none⟩) (r * H + i + 1) b106.2) (by simp only; omega) (by simp only; omega) (stsub_consI rfl (by simp only; omega) (stsub_cons rfl (stsub_cons rfl stsub_nil))) (ht_ow (by simp only; omega) (by simp only; rw [gxL_snoc hiH, List.flatMap_append, List.flatMap_cons, List.flatMap_nil, List.append_nil, ← grp_cells f e r he2.1]) (ht_ow (by simp only; omega) (by simp only; rw [plnL_snoc hiH, List.flatMap_append, List.flatMap_cons, List.flatMap_nil, List.append_nil]; rfl) ht_nil))
    · obtain rfl : H = i := by omega
      refine JC_exit ?_
      refine JE_seq_exit ?_
      refine JE_then_exit ?_
      refine JE_block_here ?_
      refine JE_seq ?_
      refine JC_region ?_
      refine JL_pd rfl (det_move rfl) ?_
      refine JL_pd rfl (det_add rfl rfl ⟨by omega, by omega⟩) ?_
      refine JL_pd rfl (det_assign rfl) ?_
      refine JL_nil ?_
      refine JE_block ?_
      refine JE_seq ?_
      refine JC_region ?_
      refine JL_pd rfl (det_move rfl) ?_
      refine JL_pd rfl (det_add rfl rfl ⟨by omega, by omega⟩) ?_
      refine JL_pd rfl (det_assign rfl) ?_
      refine JL_nil ?_
      -- stop: end
      refine JE_roundF hK1 (r + 1, v1, pv1) (by simp only; omega) (by simp only; omega) (stsub_consI rfl (by simp only; omega) (stsub_consI rfl (by simp only; omega) (stsub_cons rfl (stsub_cons rfl stsub_nil)))) (ht_ow (by simp only; rw [Nat.succ_mul]) (by simp only; rw [Nat.succ_mul]) (ht_ow (by simp only; rw [Nat.succ_mul]) (by simp only; rw [Nat.succ_mul]) ht_nil))
  · have hrK : ¬ r < K := fun h => by
      have := (hKi r hr).1 h
      rw [decide_eq_true (by omega), decide_eq_true (by omega)] at h5
      cases h5
    obtain rfl : K = r := by omega
    refine JC_slice (enc := encG) (v := .slice ga (K * H) gc) (gxL H f e (K * H)) noFp rfl (gxL_len _ _ _ _).symm ?_
    rintro _ _ hh
    cases hh
    refine JC_slice (enc := encI) (v := .slice pa (K * H) pc) (plnL H q (K * H)) noFp rfl (plnL_len _ _ _).symm ?_
    rintro _ _ hh
    cases hh
    refine JC_know (R' := KAnd (KFt (gxL H f e (K * H))) _) (fun w h => ⟨gxL_ft _ _ _ _ w, h⟩) ?_
    have hok := host_ok hn2 hf2 he2
    have hpl := planned_host (q := q) hn2 hf2 he2 (hH ▸ hq)
    obtain ⟨hok1, hok2, hok3⟩ := hok
    rw [← hH, ← hK0] at hpl hok1 hok2 hok3
    obtain ⟨hpl1, hpl2⟩ := hpl
    have hgl : (gxL H f e (K * H)).length = K * H := gxL_len _ _ _ _
    have hgg : gs (gxL H f e (K * H)) = grpL H f e (K * H) := gxL_gs _ _ _ _
    have hf0 : fault ⟨(H : Int) - 1, z10⟩ (gs (gxL H f e (K * H))) = 0 := by rw [hgg]; exact hok2
    refine JC_exit ?_
    refine JE_seq_exit ?_
    refine JE_then_exit ?_
    refine JE_block_here ?_
    refine JE_seq ?_
    refine JC_seq ?_
    refine JC_seq ?_
    refine JC_draw [] (by kernel_rfl) ?_
    refine JA_dt (i := 0) rfl (by kernel_rfl) (by kernel_rfl) rfl rfl (det_loadKA rfl Try.isAgg28 Try.sizeOf28 rfl rfl) ?_
    refine JA_pd (i := 1) rfl (by kernel_rfl) rfl rfl (det_move rfl) ?_
    refine JA_pd (i := 2) rfl (by kernel_rfl) rfl rfl (det_move rfl) ?_
    refine JA_pd (i := 4) rfl (by kernel_rfl) rfl rfl (det_move rfl) ?_
    refine JA_pd (i := 5) rfl (by kernel_rfl) rfl rfl (det_len rfl Try.runUnderlying29) ?_
    refine JA_oneH (i := 3) (by kernel_rfl) rfl rfl (jo_appendN (e := encI) el_26 rfl encI_one (by omega)) (fun _ => ⟨HIn.sub, Knows.know⟩) fun b112 => ?_
    refine JA_slice (enc := encI) (v := b112) (plnL H q (K * H)) noFp rfl (plnL_len _ _ _).symm ?_
    rintro ka kc rfl
    have hP1 := ProvePlan_h (H : Int) b47 ga gc (K * H) (gxL H f e (K * H)) hgl ka kc (K * H) (plnL H q (K * H)) (plnL_len _ _ _) ((K * H : Nat) : Int)
    rw [hgg, decide_eq_true hpl1, decide_eq_true (show ((K * H : Nat) : Int) ≤ ((served (plnL H q (K * H)) : Nat) : Int) by rw [hpl2]; exact Int.le_refl _)] at hP1
    refine JA_one (i := 6) (by kernel_rfl) rfl rfl (jo_callv rfl rfl Try.call6 rfl (hP1)) (fun _ => ⟨hsub_refl, fun _ h => h⟩) fun _ => ?_
    refine JA_pd (i := 7) rfl (by kernel_rfl) rfl rfl (det_not rfl) ?_
    refine JA_done (by kernel_rfl) ?_
    refine JE_seq ?_
    -- stop: cond
    refine JC_cond rfl (fun h8 => ?_) (fun h8 => ?_)
    · cases h8
    refine JC_skip ?_
    refine JE_seq ?_
    refine JC_seq ?_
    refine JC_region ?_
    refine JL_dt rfl (det_loadKA rfl Try.isAgg28 Try.sizeOf28 rfl rfl) ?_
    refine JL_pd rfl (det_move rfl) ?_
    refine JL_step rfl rfl rfl (jo_call rfl rfl Try.call7 rfl (Serve_h ((H : Int) - 1) b52 ga gc (K * H) (gxL H f e (K * H)) hgl hf0)) fun x120 => ?_
    refine JL_pd rfl (det_move rfl) ?_
    refine JL_pd rfl (det_extract rfl rfl) ?_
    refine JL_pd rfl (det_extract rfl rfl) ?_
    refine JL_pd rfl (det_assign rfl) ?_
    refine JL_pd rfl (det_assign rfl) ?_
    refine JL_nil ?_
    refine JE_seq ?_
    refine JC_seq ?_
    refine JC_region ?_
    refine JL_dt rfl (det_loadKA rfl Try.isAgg28 Try.sizeOf28 rfl rfl) ?_
    refine JL_pd rfl (det_move rfl) ?_
    refine JL_step rfl rfl rfl (jo_call rfl rfl Try.call8 rfl (Marks_h ((H : Int) - 1) b52 ga gc (K * H) (gxL H f e (K * H)) hgl hf0)) fun x126 => ?_
    refine JL_pd rfl (det_move rfl) ?_
    refine JL_pd rfl (det_extract rfl rfl) ?_
    refine JL_pd rfl (det_extract rfl rfl) ?_
    refine JL_pd rfl (det_assign rfl) ?_
    refine JL_pd rfl (det_assign rfl) ?_
    refine JL_nil ?_
    refine JE_seq ?_
    refine JC_seq ?_
    -- stop: region
    obtain ⟨pb, p, hp⟩ := x120
    have V := vld_of hf0
    have hF := serve_facts V.gr hp
    have hpn : p.length = K * H := by rw [hF.n, hgg, grpL_len]
    have hHn : ((H : Int) - 1).toNat = H - 1 := by omega
    have hFk := hF
    rw [hHn] at hFk
    have hdue : served p = K * (H - 1) := hok3 p (hgg ▸ hFk)
    obtain ⟨m1, m2, m3⟩ := marks_facts V.gr hFk
    have hri := marks_risB V.gr hFk
    rw [show ((H - 1 : Nat) : Int) = (H : Int) - 1 by omega] at m1 m2 m3 hri
    have hpp := planned_ofH (x := ⟨⟨(H : Int) - 1, z10⟩, none, 0⟩) hf0 hF (by simp only; omega)
    generalize marksV ((H : Int) - 1) (gs (gxL H f e (K * H))) = M at m1 m2 m3 hri ⊢
    have hml := marks_lenH m1 m2
    dsimp only
    have hKH : K * H ≤ 5 * 3 := Nat.mul_le_mul (by omega) hH3.2
    have hKd : K * (H - 1) ≤ K * H := Nat.mul_le_mul_left K (by omega)
    have hdu : (K : Int) * ((H : Int) - 1) = ((K * (H - 1) : Nat) : Int) := by rw [Int.natCast_mul]; congr 1; omega
    refine JC_draw [] (by kernel_rfl) ?_
    refine JA_dt (i := 0) rfl (by kernel_rfl) (by kernel_rfl) rfl rfl (det_loadKA rfl Try.isAgg28 Try.sizeOf28 rfl rfl) ?_
    refine JA_pd (i := 1) rfl (by kernel_rfl) rfl rfl (det_move rfl) ?_
    refine JA_pd (i := 2) rfl (by kernel_rfl) rfl rfl (det_move rfl) ?_
    refine JA_oneH (i := 3) (by kernel_rfl) rfl rfl (jo_appendN (e := encI) el_26 rfl encI_one (by omega)) (fun _ => ⟨HIn.sub, Knows.know⟩) fun b133 => ?_
    refine JA_slice (enc := encI) (v := b133) M noFp rfl rfl ?_
    rintro ta tc rfl
    have hBd := Bound_h ((H : Int) - 1) b52 ga gc (K * H) (gxL H f e (K * H)) hgl hf0 ta tc M (by omega)
    rw [show boundE ⟨⟨(H : Int) - 1, z10⟩, some ⟨b52, 0, none⟩, 10⟩ (gs (gxL H f e (K * H))) M = .tuple #[I ((K * (H - 1) : Nat) : Int), I 0] by unfold boundE; rw [if_pos hri]; simp only; rw [hHn, m3, hdue]] at hBd
    refine JA_one (i := 4) (by kernel_rfl) rfl rfl (jo_callv rfl rfl Try.call9 rfl (hBd)) (fun _ => ⟨hsub_refl, fun _ h => h⟩) fun _ => ?_
    refine JA_pd (i := 5) rfl (by kernel_rfl) rfl rfl (det_move rfl) ?_
    refine JA_pd (i := 6) rfl (by kernel_rfl) rfl rfl (det_extract rfl rfl) ?_
    refine JA_pd (i := 7) rfl (by kernel_rfl) rfl rfl (det_extract rfl rfl) ?_
    refine JA_pd (i := 8) rfl (by kernel_rfl) rfl rfl (det_assign rfl) ?_
    refine JA_pd (i := 9) rfl (by kernel_rfl) rfl rfl (det_assign rfl) ?_
    refine JA_done (by kernel_rfl) ?_
    refine JE_seq ?_
    refine JC_seq ?_
    refine JC_region ?_
    refine JL_pd rfl (det_move rfl) ?_
    refine JL_pd rfl (det_move rfl) ?_
    refine JL_pd rfl (det_quo rfl rfl (by omega) ⟨by omega, by omega⟩) ?_
    refine JL_pd rfl (det_sub rfl rfl ⟨by omega, by omega⟩) ?_
    refine JL_pd rfl (det_mul rfl rfl (show InI _ from ⟨by rw [htd, ← hH, hdu]; omega, by rw [htd, ← hH, hdu]; omega⟩)) ?_
    refine JL_pd rfl (det_assign rfl) ?_
    refine JL_nil ?_
    refine JE_seq ?_
    refine JC_seq ?_
    -- stop: region
    rw [htd, ← hH, hdu]
    have hSv := Served_j (some ⟨pb, 0, none⟩) (K * H) p (by omega)
    rw [hpn] at hSv
    have hpp2 : plannedE ⟨(H : Int) - 1, z10⟩ (gs (gxL H f e (K * H))) p = 0 := hpp
    refine JC_draw [] (by kernel_rfl) ?_
    refine JA_pd (i := 0) rfl (by kernel_rfl) rfl rfl (det_move rfl) ?_
    refine JA_pd (i := 1) rfl (by kernel_rfl) rfl rfl (det_eql rfl rfl) ?_
    refine JA_pd (i := 2) rfl (by kernel_rfl) rfl rfl (det_move rfl) ?_
    refine JA_is (d0 := 144) true rfl (by (first | rfl | exact decide_eq_true rfl | exact decide_eq_true (by rw [hdue]))) (fun h2 => ?_)
    refine JA_gpd (i := 3) rfl (by kernel_rfl) rfl rfl rfl rfl h2 (det_move rfl) ?_
    refine JA_gpd (i := 4) rfl (by kernel_rfl) rfl rfl rfl rfl h2 (det_eql rfl rfl) ?_
    refine JA_pd (i := 5) rfl (by kernel_rfl) rfl rfl (det_pick_t rfl h2 rfl) ?_
    refine JA_pd (i := 6) rfl (by kernel_rfl) rfl rfl (det_move rfl) ?_
    refine JA_is (d0 := 148) true rfl (by (first | rfl | exact decide_eq_true rfl | exact decide_eq_true (by rw [hdue]))) (fun h3 => ?_)
    refine JA_gpd (i := 7) rfl (by kernel_rfl) rfl rfl rfl rfl h3 (det_move rfl) ?_
    refine JA_gpd (i := 8) rfl (by kernel_rfl) rfl rfl rfl rfl h3 (det_eql rfl rfl) ?_
    refine JA_pd (i := 9) rfl (by kernel_rfl) rfl rfl (det_pick_t rfl h3 rfl) ?_
    refine JA_pd (i := 10) rfl (by kernel_rfl) rfl rfl (det_move rfl) ?_
    refine JA_is (d0 := 152) true rfl (by (first | rfl | exact decide_eq_true rfl | exact decide_eq_true (by rw [hdue]))) (fun h4 => ?_)
    refine JA_gpd (i := 11) rfl (by kernel_rfl) rfl rfl rfl rfl h4 (det_move rfl) ?_
    refine JA_gpd (i := 12) rfl (by kernel_rfl) rfl rfl rfl rfl h4 (det_move rfl) ?_
    refine JA_gpd (i := 13) rfl (by kernel_rfl) rfl rfl rfl rfl h4 (det_eql rfl rfl) ?_
    refine JA_pd (i := 14) rfl (by kernel_rfl) rfl rfl (det_pick_t rfl h4 rfl) ?_
    refine JA_pd (i := 15) rfl (by kernel_rfl) rfl rfl (det_move rfl) ?_
    refine JA_is (d0 := 157) true rfl (by (first | rfl | exact decide_eq_true rfl | exact decide_eq_true (by rw [hdue]))) (fun h5 => ?_)
    refine JA_gpd (i := 16) rfl (by kernel_rfl) rfl rfl rfl rfl h5 (det_move rfl) ?_
    refine JA_gpd (i := 18) rfl (by kernel_rfl) rfl rfl rfl rfl h5 (det_move rfl) ?_
    refine JA_gone (i := 17) (by kernel_rfl) rfl rfl rfl h5 rfl (jo_callv rfl rfl Try.call10 rfl (hSv)) (fun _ => ⟨hsub_refl, fun _ h => h⟩) fun _ => ?_
    refine JA_gpd (i := 19) rfl (by kernel_rfl) rfl rfl rfl rfl h5 (det_eql rfl rfl) ?_
    refine JA_pd (i := 20) rfl (by kernel_rfl) rfl rfl (det_pick_t rfl h5 rfl) ?_
    refine JA_pd (i := 21) rfl (by kernel_rfl) rfl rfl (det_move rfl) ?_
    refine JA_is (d0 := 163) true rfl (by (first | rfl | exact decide_eq_true rfl | exact decide_eq_true (by rw [hdue]))) (fun h6 => ?_)
    refine JA_gdt (i := 22) rfl (by kernel_rfl) (by kernel_rfl) rfl rfl rfl rfl h6 (det_loadKA rfl Try.isAgg28 Try.sizeOf28 rfl rfl) ?_
    refine JA_gpd (i := 23) rfl (by kernel_rfl) rfl rfl rfl rfl h6 (det_move rfl) ?_
    refine JA_gpd (i := 24) rfl (by kernel_rfl) rfl rfl rfl rfl h6 (det_move rfl) ?_
    refine JA_gpd (i := 26) rfl (by kernel_rfl) rfl rfl rfl rfl h6 (det_move rfl) ?_
    refine JA_gone (i := 25) (by kernel_rfl) rfl rfl rfl h6 rfl (jo_appendN (e := encI) el_26 rfl encI_one (by omega)) (fun _ => ⟨hsub_drop 1 rfl, fun _ h => h⟩) fun b167 => ?_
    refine JA_slice (enc := encI) (v := b167) p noFp rfl hpn.symm ?_
    rintro sa sc rfl
    have hP1 := ProvePlan_h ((H : Int) - 1) b52 ga gc (K * H) (gxL H f e (K * H)) hgl sa sc (K * H) p hpn ((K * (H - 1) : Nat) : Int)
    rw [decide_eq_true hpp2, decide_eq_true (show ((K * (H - 1) : Nat) : Int) ≤ ((served p : Nat) : Int) by rw [hdue]; exact Int.le_refl _)] at hP1
    refine JA_gone (i := 27) (by kernel_rfl) rfl rfl rfl h6 rfl (jo_callv rfl rfl Try.call6 rfl (hP1)) (fun _ => ⟨hsub_refl, fun _ h => h⟩) fun _ => ?_
    refine JA_pd (i := 28) rfl (by kernel_rfl) rfl rfl (det_pick_t rfl h6 rfl) ?_
    refine JA_pd (i := 29) rfl (by kernel_rfl) rfl rfl (det_move rfl) ?_
    refine JA_is (d0 := 171) true rfl (by (first | rfl | exact decide_eq_true rfl | exact decide_eq_true (by rw [hdue]))) (fun h7 => ?_)
    refine JA_gdt (i := 30) rfl (by kernel_rfl) (by kernel_rfl) rfl rfl rfl rfl h7 (det_loadKA rfl Try.isAgg28 Try.sizeOf28 rfl rfl) ?_
    refine JA_gpd (i := 31) rfl (by kernel_rfl) rfl rfl rfl rfl h7 (det_move rfl) ?_
    refine JA_gpd (i := 32) rfl (by kernel_rfl) rfl rfl rfl rfl h7 (det_move rfl) ?_
    refine JA_gpd (i := 34) rfl (by kernel_rfl) rfl rfl rfl rfl h7 (det_move rfl) ?_
    refine JA_gpd (i := 35) rfl (by kernel_rfl) rfl rfl rfl rfl h7 (det_add rfl rfl ⟨by omega, by omega⟩) ?_
    refine JA_gone (i := 33) (by kernel_rfl) rfl rfl rfl h7 rfl (jo_appendN (e := encI) el_26 rfl encI_one (by omega)) (fun _ => ⟨hsub_drop 1 rfl, fun _ h => h⟩) fun b175 => ?_
    refine JA_slice (enc := encI) (v := b175) p noFp rfl hpn.symm ?_
    rintro sa sc rfl
    have hP1 := ProvePlan_h ((H : Int) - 1) b52 ga gc (K * H) (gxL H f e (K * H)) hgl sa sc (K * H) p hpn (((K * (H - 1) : Nat) : Int) + 1)
    rw [decide_eq_false (show ¬ ((K * (H - 1) : Nat) : Int) + 1 ≤ ((served p : Nat) : Int) by rw [hdue]; omega), Bool.and_false] at hP1
    refine JA_gone (i := 36) (by kernel_rfl) rfl rfl rfl h7 rfl (jo_callv rfl rfl Try.call6 rfl (hP1)) (fun _ => ⟨hsub_refl, fun _ h => h⟩) fun _ => ?_
    refine JA_gpd (i := 37) rfl (by kernel_rfl) rfl rfl rfl rfl h7 (det_not rfl) ?_
    refine JA_pd (i := 38) rfl (by kernel_rfl) rfl rfl (det_pick_t rfl h7 rfl) ?_
    refine JA_pd (i := 39) rfl (by kernel_rfl) rfl rfl (det_move rfl) ?_
    refine JA_is (d0 := 181) true rfl (by (first | rfl | exact decide_eq_true rfl | exact decide_eq_true (by rw [hdue]))) (fun h8 => ?_)
    refine JA_gone (i := 40) (by kernel_rfl) rfl rfl rfl h8 rfl (jo_callv rfl rfl Try.call11 rfl (hosted_j)) (fun _ => ⟨hsub_refl, fun _ h => h⟩) fun _ => ?_
    refine JA_pd (i := 41) rfl (by kernel_rfl) rfl rfl (det_pick_t rfl h8 rfl) ?_
    refine JA_pd (i := 42) rfl (by kernel_rfl) rfl rfl (det_assign rfl) ?_
    refine JA_done (by kernel_rfl) ?_
    refine JE_seq ?_
    refine JC_ret ?_
    refine JE_out (.inl rfl) () (results1 Try.results3 (res_tmp rfl)) ?_ (List.Perm.refl _) (fun _ _ => trivial)
    rfl
end Go.Proofs.Ythpkgabckklojaa.En

/- The statement TopStruck, plain: what is left can be left; what surely falls has fallen; what has fallen may. -/
import Derived.Test.YthpkgabckklojaaGreatKH
set_option linter.unusedSimpArgs false
set_option linter.unusedVariables false
namespace Go.Proofs.YthpkgabckklojaaGreat.Rk
open Go.RowKit Go.Shelf

def lsI (s : BS) : List Int := (lsP s).map fun n : Nat => (n : Int)
theorem lsI_len (s : BS) : (lsI s).length = (lsP s).length := List.length_map _
theorem lsI_mem {s : BS} {y : Int} : y ∈ lsI s ↔ ∃ i : Nat, i < 10 ∧ s.getLsbD i = true ∧ y = (i : Int) := by
  unfold lsI
  rw [List.mem_map]
  constructor
  · rintro ⟨i, hi, rfl⟩
    exact ⟨i, (lsP_mem.1 hi).1, (lsP_mem.1 hi).2, rfl⟩
  · rintro ⟨i, h1, h2, rfl⟩
    exact ⟨i, lsP_mem.2 ⟨h1, h2⟩, rfl⟩
theorem ofL_has {l : List Int} {i : Nat} : (ofL l).getLsbD i = true ↔ i < 16 ∧ (i : Int) ∈ l := by
  unfold ofL
  rw [has_ofP]; simp
theorem an_has {s u : BS} {i : Nat} (hi : i < 16) : (s &&& ~~~ u).getLsbD i = true ↔ s.getLsbD i = true ∧ u.getLsbD i = false := by
  rw [BitVec.getLsbD_and, BitVec.getLsbD_not, Bool.and_eq_true, Bool.and_eq_true]
  simp [hi]
theorem ofL_left {r : Rk} {l : List Int} (V : VR r) (hl : VP r l) (R : BS) : ofL (lsI (ofL l &&& ~~~ R)) = ofL l &&& ~~~ R := bs_ext fun i hi => by
  rw [Bool.eq_iff_iff, ofL_has]
  constructor
  · rintro ⟨_, h⟩
    obtain ⟨j, _, h2, h3⟩ := lsI_mem.1 h
    obtain rfl : i = j := by omega
    exact h2
  · intro h
    have h1 := (ofL_has.1 ((an_has hi).1 h).1).2
    have h2 := hl.ten V _ h1
    exact ⟨hi, lsI_mem.2 ⟨i, by omega, h, rfl⟩⟩
theorem upB_of : ∀ {l : List Int} {s : Int}, (∀ x ∈ l, s < x) → l.Pairwise (· < ·) → upB s l = true
  | [], _, _, _ => rfl
  | x :: l, s, h, hp => by
    unfold upB
    rw [decide_eq_true (h x (List.mem_cons_self ..)), Bool.true_and]
    exact upB_of (fun y hy => (List.pairwise_cons.1 hp).1 y hy) (List.pairwise_cons.1 hp).2
theorem vp_left {r : Rk} {l : List Int} (hl : VP r l) (R : BS) : VP r (lsI (ofL l &&& ~~~ R)) := by
  refine ⟨fun x hx => ?_, upB_of (fun x hx => ?_) ?_⟩
  · obtain ⟨i, h1, h2, rfl⟩ := lsI_mem.1 hx
    exact hl.pin _ (ofL_has.1 ((an_has (by omega)).1 h2).1).2
  · obtain ⟨i, h1, h2, rfl⟩ := lsI_mem.1 hx
    omega
  · unfold lsI lsP
    rw [List.pairwise_map]
    exact (List.pairwise_lt_range.filter _).imp fun h => by omega
theorem fell_mem {r : Rk} {l : List Int} (V : VR r) (hl : VP r l) {R : BS} {y : Int} : y ∈ leftL l (lsI (ofL l &&& ~~~ R)) ↔ ∃ i : Nat, y = (i : Int) ∧ i < 10 ∧ (i : Int) ∈ l ∧ R.getLsbD i = true := by
  unfold leftL
  rw [List.mem_filter]
  constructor
  · rintro ⟨h1, h2⟩
    have h3 := hl.ten V _ h1
    have h4 : y ∉ lsI (ofL l &&& ~~~ R) := by simpa using h2
    obtain ⟨i, rfl⟩ : ∃ i : Nat, y = (i : Int) := ⟨y.toNat, by omega⟩
    refine ⟨i, rfl, by omega, h1, ?_⟩
    apply Classical.byContradiction
    intro hn
    exact h4 (lsI_mem.2 ⟨i, by omega, (an_has (by omega)).2 ⟨ofL_has.2 ⟨by omega, h1⟩, by simpa using hn⟩, rfl⟩)
  · rintro ⟨i, rfl, hi, h1, h2⟩
    refine ⟨h1, ?_⟩
    have : (i : Int) ∉ lsI (ofL l &&& ~~~ R) := fun h => by
      obtain ⟨j, _, h3, h4⟩ := lsI_mem.1 h
      obtain rfl : i = j := by omega
      rw [((an_has (by omega)).1 h3).2] at h2
      cases h2
    simpa using this
theorem tch_sub {r : Rk} {S : BS} {f : Nat → Int} {row : Nat} : ∀ {m : Nat}, row < m → ∀ i, (tch r S row (f row)).getLsbD i = true → (tchU r S f m).getLsbD i = true
  | 0, h, _, _ => absurd h (Nat.not_lt_zero _)
  | m + 1, h, i, hi => by
    unfold tchU
    rw [BitVec.getLsbD_or, Bool.or_eq_true]
    by_cases e : row = m
    · subst e; exact .inr hi
    · exact .inl (tch_sub (by omega) i hi)
theorem tchU_split {r : Rk} {S : BS} {f : Nat → Int} {cf : Nat → Lk → Bool} {i : Nat} : ∀ {m : Nat}, Fl r.ls S (tchU r S f m) cf i → ∃ row, row < m ∧ Fl r.ls S (tch r S row (f row)) cf i
  | 0, h => h.none.elim
  | m + 1, h => by
    rcases Fl.split (show Fl r.ls S (tchU r S f m ||| tch r S m (f m)) cf i from h) with h | h
    · obtain ⟨row, h1, h2⟩ := tchU_split h
      exact ⟨row, by omega, h2⟩
    · exact ⟨m, by omega, h⟩
theorem carOk_of {r : Rk} {ball : List Rg} {over : List Int} {cs : List Bool} (hT : VT r ball over cs) {k : Nat} {l : Lk} (hk : r.ls[k]? = some l) (hs : l.s = true) : cs.getD k false = true := by
  obtain ⟨h1, h2⟩ := List.getElem?_eq_some_iff.1 hk
  have h3 : k < cs.length := by rw [hT.m]; exact h1
  rw [List.getD_eq_getElem?_getD, List.getElem?_eq_getElem h3]
  exact hT.s k h1 h3 (by rw [h2]; exact hs)
/-- The links that carry though they need not. -/
def maskL (r : Rk) (cs : List Bool) : List Bool := (List.range r.ls.length).map fun k => cs.getD k false && !(r.ls.getD k default).s
theorem maskL_get {r : Rk} {cs : List Bool} {k : Nat} {l : Lk} (hk : r.ls[k]? = some l) : (maskL r cs).getD k false = (cs.getD k false && !l.s) := by
  obtain ⟨h1, h2⟩ := List.getElem?_eq_some_iff.1 hk
  unfold maskL
  rw [List.getD_eq_getElem?_getD, List.getElem?_map, List.getElem?_range h1, Option.map_some, Option.getD_some, List.getD_eq_getElem?_getD (l := r.ls), hk]
  rfl
theorem can_of {r : Rk} {S : BS} {ball : List Rg} {over : List Int} {cs : List Bool} {R : BS} (hT : VT r ball over cs) (hB : VB r ball) (hR : IsFl r.ls S (tchU r S (fun j => over.getD j 0) r.rows.toNat) (carC cs) R) : Can r S ball (S &&& ~~~ R) := by
  have hn : r.rows.toNat = ball.length := by have := hB.n; omega
  rw [hn] at hR
  refine ⟨fun j => over.getD j 0, cB (maskL r cs) r.ls.length, R, fun row h => ?_, cB_lt _ _, fun k l hk hs => ?_, hR.congr fun k l hk => ?_, rfl⟩
  · have h2 : row < over.length := by rw [hT.n]; exact h
    have h3 := hT.b row h h2
    dsimp only
    rw [List.getD_eq_getElem?_getD, List.getElem?_eq_getElem h2]
    exact bdL_mem.2 h3
  · rw [cB_bit, maskL_get hk, hs]; simp
  · have h1 := (List.getElem?_eq_some_iff.1 hk).1
    unfold someC carC
    rw [cB_bit, maskL_get hk, decide_eq_true h1, Bool.true_and]
    cases hs : l.s
    · simp
    · rw [carOk_of hT hk hs]; rfl
theorem over_bd {r : Rk} {ball : List Rg} {over : List Int} {cs : List Bool} (hT : VT r ball over cs) {row : Nat} (h : row < ball.length) : over.getD row 0 ∈ bdL ball[row] := by
  have h2 : row < over.length := by rw [hT.n]; exact h
  rw [List.getD_eq_getElem?_getD, List.getElem?_eq_getElem h2]
  exact bdL_mem.2 (hT.b row h h2)
theorem sure_in {r : Rk} {l : List Int} {ball : List Rg} {over : List Int} {cs : List Bool} {R A : BS} (V : VR r) (hl : VP r l) (hT : VT r ball over cs) (hB : VB r ball) (hR : IsFl r.ls (ofL l) (tchU r (ofL l) (fun j => over.getD j 0) r.rows.toNat) (carC cs) R) (hA : SureOk r (ofL l) ball ball.length A) {y : Int} (hy : y ∈ lsI A) : y ∈ leftL l (lsI (ofL l &&& ~~~ R)) := by
  obtain ⟨i, h1, h2, rfl⟩ := lsI_mem.1 hy
  obtain ⟨row, q1, q2, q3, q4⟩ := hA i (by omega) h2
  have hn : r.rows.toNat = ball.length := by have := hB.n; omega
  refine (fell_mem V hl).2 ⟨i, rfl, h1, (ofL_has.1 q3).2, (hR i (by omega)).2 ?_⟩
  exact (q4 _ (over_bd hT q1)).mono (tch_sub (f := fun j => over.getD j 0) (by omega)) fun k l hk hs => carOk_of hT hk hs
theorem may_in {r : Rk} {l : List Int} {ball : List Rg} {over : List Int} {cs : List Bool} {R E : BS} (V : VR r) (hl : VP r l) (hT : VT r ball over cs) (hB : VB r ball) (hR : IsFl r.ls (ofL l) (tchU r (ofL l) (fun j => over.getD j 0) r.rows.toNat) (carC cs) R) (hE : MayOk r (ofL l) ball ball.length E) {y : Int} (hy : y ∈ leftL l (lsI (ofL l &&& ~~~ R))) : y ∈ lsI E := by
  obtain ⟨i, rfl, h1, h2, h3⟩ := (fell_mem V hl).1 hy
  have hn : r.rows.toNat = ball.length := by have := hB.n; omega
  obtain ⟨row, q1, q2⟩ := tchU_split ((hR i (by omega)).1 h3)
  have q3 : row < ball.length := by omega
  exact lsI_mem.2 ⟨i, h1, hE row q3 q3 _ (over_bd hT q3) i (by omega) (q2.mono (fun _ h => h) fun _ _ _ _ => rfl), rfl⟩
theorem Hit_n (r : Rk) (a : Option Addr) (c : Nat) (V : VR r) (la : Option Addr) (lc : Nat) (l : List Int) (hl : VP r l) (ba : Option Addr) (bc : Nat) (ball : List Rg) (hB : VB r ball) (oa : Option Addr) (oc : Nat) (over : List Int) (ca : Option Addr) (cc : Nat) (cs : List Bool) (hT : VT r ball over cs) :
    Cr Tryz.prog 19 [vRk r a c, .slice la l.length lc, .slice ba ball.length bc, .slice oa over.length oc, .slice ca cs.length cc] (KAnd (KRk r a c) (KAnd (KSl la l.length lc encN l) (KAnd (KSl ba ball.length bc encRg ball) (KAnd (KSl oa over.length oc encN over) (KSl ca cs.length cc encQ cs)))))
      (fun q : HitQ r (ofL l) over cs => .tuple #[.slice q.2.1 (lsI (ofL l &&& ~~~ q.1.1)).length q.2.2, I 0]) (fun q => KSl q.2.1 (lsI (ofL l &&& ~~~ q.1.1)).length q.2.2 encN (lsI (ofL l &&& ~~~ q.1.1))) :=
  Cr.conv (Hit_j r a c V la lc l hl ba bc ball hB oa oc over ca cc cs hT) (fun q => by rw [lsI_len]) fun q w h => by rw [lsI_len]; exact ksl_nat h
theorem Falls_n (r : Rk) (a : Option Addr) (c : Nat) (V : VR r) (la : Option Addr) (lc : Nat) (l : List Int) (hl : VP r l) (ba : Option Addr) (bc : Nat) (ball : List Rg) (hB : VB r ball) :
    Cr Tryz.prog 22 [vRk r a c, .slice la l.length lc, .slice ba ball.length bc] (KAnd (KRk r a c) (KAnd (KSl la l.length lc encN l) (KSl ba ball.length bc encRg ball)))
      (fun q : FallQ r (ofL l) ball => .tuple #[.slice q.2.1.1 (lsI q.1.1.1).length q.2.1.2, .slice q.2.2.1 (lsI q.1.1.2).length q.2.2.2, I 0]) (fun q => KAnd (KSl q.2.1.1 (lsI q.1.1.1).length q.2.1.2 encN (lsI q.1.1.1)) (KSl q.2.2.1 (lsI q.1.1.2).length q.2.2.2 encN (lsI q.1.1.2))) :=
  Cr.conv (Falls_j r a c V la lc l hl ba bc ball hB) (fun q => by rw [lsI_len, lsI_len]) fun q w h => by rw [lsI_len, lsI_len]; exact ⟨ksl_nat h.1, ksl_nat h.2⟩
/-- The ends of a row's states. -/
def rowB (l : La) (s : St) (k : Nat) : Rg := ⟨((rowL l s k).getD 0 default).b, ((rowL l s k).getD ((rowL l s k).length - 1) default).b⟩
theorem row_ends {l : La} {s : St} {k : Nat} {x : St} (h : x ∈ rowL l s k) : (rowB l s k).lo ≤ x.b ∧ x.b ≤ (rowB l s k).hi := by
  have hs := rowL_sorted l s k
  obtain ⟨i, hi, rfl⟩ := List.getElem_of_mem h
  rw [List.pairwise_iff_getElem] at hs
  have e0 : (rowL l s k).getD 0 default = (rowL l s k)[0] := by rw [List.getD_eq_getElem?_getD, List.getElem?_eq_getElem (by omega)]; rfl
  have e1 : (rowL l s k).getD ((rowL l s k).length - 1) default = (rowL l s k)[(rowL l s k).length - 1] := by rw [List.getD_eq_getElem?_getD, List.getElem?_eq_getElem (by omega)]; rfl
  unfold rowB
  rw [e0, e1]
  have hle : ∀ (p q : Nat) (hp : p < (rowL l s k).length) (hq : q < (rowL l s k).length), p ≤ q → (rowL l s k)[p].b ≤ (rowL l s k)[q].b := fun p q hp hq hpq => by
    by_cases e : p = q
    · subst e; exact Int.le_refl _
    · have h1 := hs p q hp hq (by omega)
      simp only [lessS, Bool.or_eq_true, Bool.and_eq_true, decide_eq_true_eq] at h1
      omega
  exact ⟨hle 0 i (by omega) hi (by omega), hle i _ hi (by omega) (by omega)⟩
end Go.Proofs.YthpkgabckklojaaGreat.Rk

/- Bill, plain: both ends of the range of a sale. -/
import Derived.Test.YtjbmkdbgobmclaaB36
set_option linter.unusedSimpArgs false
set_option linter.unusedVariables false
namespace Go.Proofs.Ytjbmkdbgobmclaa
open Go.RowKit Go.Shelf

theorem sumR_out : ∀ (s : List Int) (k fr to_ : Int), to_ < k → sumR k s fr to_ = 0
  | [], _, _, _, _ => rfl
  | x :: s, k, fr, to_, h => by
    have hn : ¬ inI k fr to_ = true := fun e => by have := inI_iff.1 e; omega
    rw [sumR, if_neg hn, sumR_out s (k + 1) fr to_ (by omega)]; rfl
theorem sumR_under : ∀ (s : List Int) (k fr to_ : Int), k + s.length ≤ fr → sumR k s fr to_ = 0
  | [], _, _, _, _ => rfl
  | x :: s, k, fr, to_, h => by
    rw [List.length_cons] at h
    have hn : ¬ inI k fr to_ = true := fun e => by have := inI_iff.1 e; omega
    rw [sumR, if_neg hn, sumR_under s (k + 1) fr to_ (by omega)]; rfl
theorem sumR_full : ∀ (s : List Int) (k fr to_ : Int), fr ≤ k → k + s.length ≤ to_ + 1 → sumR k s fr to_ = s.sum
  | [], _, _, _, _, _ => rfl
  | x :: s, k, fr, to_, h1, h2 => by
    rw [List.length_cons] at h2
    rw [sumR, if_pos (inI_iff.2 ⟨h1, by omega⟩), sumR_full s (k + 1) fr to_ (by omega) (by omega), List.sum_cons]
theorem list_make (n : Nat) (c : Int) (h1 : (n : Int) ≤ c) (h2 : c ≤ 1000 * n) : ∃ s : List Int, s.length = n ∧ (∀ x ∈ s, okS x) ∧ s.sum = c := by
  have hc : cntR 1 n 1 0 = 0 := by rw [cntR_eq]; omega
  obtain ⟨s, e1, e2, e3, _⟩ := sumR_make n 1 1 0 0 c (by omega) (by omega) (by omega) (by omega)
  exact ⟨s, e1, e2, by omega⟩
/-- Behind a message nothing up to it is taken. -/
theorem take_zero {ts : List Ms} {last : Ms} (hi : Bool) {fr to_ : Int} (h : ((gapsF last ts).all fun z => okG z.1) = true) (ht : to_ ≤ last.no) : ((gapsF last ts).map (takeF (if hi then muchG else littleG) fr to_)).sum = 0 := by
  obtain ⟨s, _, e⟩ := fitF_make hi ts last fr to_ h
  rw [← e]
  exact sumR_out s _ _ _ (by omega)
theorem ends_gap {g : Gp} (h : okG g = true) (hi : Bool) {fr a : Int} (h1 : fr ≤ g.fr) (h2 : g.fr ≤ a) (h3 : a ≤ g.to_) :
    ∃ s : List Int, (s.length : Int) = manyG g ∧ s.sum = g.co ∧ (∀ x ∈ s, okS x) ∧ sumR g.fr s a a = takeG (if hi then muchG else littleG) a a g ∧ sumR g.fr s fr (a - 1) = takeG (if hi then littleG else muchG) fr (a - 1) g := by
  obtain ⟨m1, m2, m3⟩ := okG_iff.1 h
  have hM : manyG g = g.to_ - g.fr + 1 := rfl
  obtain ⟨p, hp⟩ : ∃ p : Nat, (p : Int) = a - g.fr := ⟨(a - g.fr).toNat, by omega⟩
  obtain ⟨q, hq⟩ : ∃ q : Nat, (q : Int) = g.to_ - a := ⟨(g.to_ - a).toNat, by omega⟩
  obtain ⟨c, hc⟩ : ∃ c : Int, c = takeG (if hi then muchG else littleG) a a g := ⟨_, rfl⟩
  obtain ⟨X, hX⟩ : ∃ X : Int, X = takeG (if hi then littleG else muchG) fr (a - 1) g := ⟨_, rfl⟩
  have hs1 : someG g a a = 1 := by unfold someG; omega
  have hs2 : someG g fr (a - 1) = p := by unfold someG; omega
  have hb : (p : Int) ≤ X ∧ X ≤ 1000 * p ∧ 1 ≤ c ∧ c ≤ 1000 ∧ (q : Int) ≤ g.co - X - c ∧ g.co - X - c ≤ 1000 * q := by
    rw [hc, hX]
    unfold takeG littleG muchG
    rw [hs1, hs2]
    cases hi <;> simp only [if_true, if_false, Bool.false_eq_true] <;> (split <;> split <;> omega)
  obtain ⟨s1, e1, e2, e3⟩ := list_make p X hb.1 hb.2.1
  obtain ⟨s2, f1, f2, f3⟩ := list_make q (g.co - X - c) hb.2.2.2.2.1 hb.2.2.2.2.2
  refine ⟨s1 ++ c :: s2, ?_, ?_, fun x hx => ?_, ?_, ?_⟩
  · rw [List.length_append, List.length_cons, hM]; omega
  · rw [List.sum_append, List.sum_cons, e3, f3]; omega
  · rcases List.mem_append.1 hx with hx | hx
    · exact e2 x hx
    · rcases List.mem_cons.1 hx with rfl | hx
      · exact ⟨hb.2.2.1, hb.2.2.2.1⟩
      · exact f2 x hx
  · rw [sumR_app, sumR, sumR_under s1 _ _ _ (by omega), sumR_out s2 _ _ _ (by omega), if_pos (inI_iff.2 ⟨by omega, by omega⟩), ← hc]; omega
  · have hn : ¬ inI (g.fr + s1.length) fr (a - 1) = true := fun e => by have := inI_iff.1 e; omega
    rw [sumR_app, sumR, sumR_full s1 _ _ _ h1 (by omega), sumR_out s2 _ _ _ (by omega), if_neg hn, e3, ← hX]; omega
theorem ends_make (hi : Bool) : ∀ (ts : List Ms) (last : Ms) (fr a : Int), ((gapsF last ts).all fun z => okG z.1) = true → fr ≤ last.no + 1 → last.no < a → a ≤ lastF last ts →
    ∃ s, FitF last ts s ∧ sumR (last.no + 1) s a a = ((gapsF last ts).map (takeF (if hi then muchG else littleG) a a)).sum ∧ sumR (last.no + 1) s fr (a - 1) = ((gapsF last ts).map (takeF (if hi then littleG else muchG) fr (a - 1))).sum
  | [], last, fr, a, _, _, h1, h2 => by rw [lastF] at h2; omega
  | m :: ts, last, fr, a, h, hf, h1, h2 => by
    unfold gapsF at h ⊢
    rw [List.all_cons, Bool.and_eq_true] at h
    rw [lastF] at h2
    have hg0 : okG (gapOf last m) = true := h.1
    obtain ⟨m1, m2, m3⟩ := okG_iff.1 hg0
    have hgf : (gapOf last m).fr = last.no + 1 := rfl
    have hgt : (gapOf last m).to_ = m.no - 1 := rfl
    have hM : manyG (gapOf last m) = (gapOf last m).to_ - (gapOf last m).fr + 1 := rfl
    have hml : last.no < m.no := by omega
    by_cases ha : m.no ≤ a
    · -- the whole gap is ahead
      obtain ⟨g, j1, j2, j3, _⟩ := gap_make true 1 0 hg0
      have hk : last.no + 1 + (g.length : Int) = m.no := by rw [j1, hM, hgf, hgt]; omega
      have t1 : takeG (if hi then muchG else littleG) a a (gapOf last m) = 0 := by
        unfold takeG; rw [if_neg]; unfold someG; omega
      have t2 : takeG (if hi then littleG else muchG) fr (a - 1) (gapOf last m) = (gapOf last m).co := by
        have hs : someG (gapOf last m) fr (a - 1) = manyG (gapOf last m) := by unfold someG; rw [hM]; omega
        unfold takeG littleG muchG
        rw [hs]
        cases hi <;> simp only [if_true, if_false, Bool.false_eq_true] <;> split <;> omega
      have u1 : sumR (last.no + 1) g a a = 0 := sumR_under g _ _ _ (by omega)
      have u2 : sumR (last.no + 1) g fr (a - 1) = (gapOf last m).co := by rw [sumR_full g _ _ _ hf (by omega), j2]
      by_cases ha2 : m.no = a
      · obtain ⟨r, k1, _⟩ := fitF_make true ts m 1 0 h.2
        have z1 := take_zero (fr := a) (to_ := a) hi h.2 (by omega)
        have z2 := take_zero (fr := fr) (to_ := a - 1) (!hi) h.2 (by omega)
        have hz : (if (!hi) then muchG else littleG) = (if hi then littleG else muchG) := by cases hi <;> rfl
        rw [hz] at z2
        refine ⟨g ++ m.coins :: r, ⟨g, r, rfl, j1, j2, j3, k1⟩, ?_, ?_⟩
        · rw [List.map_cons, List.sum_cons, takeF_G, t1, z1, sumR_app, sumR, u1, hk, sumR_out r _ _ _ (by omega)]
          simp only
          omega
        · have hn : ¬ inI m.no fr (a - 1) = true := fun e => by have := inI_iff.1 e; omega
          rw [List.map_cons, List.sum_cons, takeF_G, t2, z2, sumR_app, sumR, u2, hk, sumR_out r _ _ _ (by omega)]
          simp only
          rw [if_neg hn]
          omega
      · obtain ⟨r, k1, k2, k3⟩ := ends_make hi ts m fr a h.2 (by omega) (by omega) h2
        refine ⟨g ++ m.coins :: r, ⟨g, r, rfl, j1, j2, j3, k1⟩, ?_, ?_⟩
        · rw [List.map_cons, List.sum_cons, takeF_G, t1, sumR_app, sumR, u1, hk, k2]
          simp only
          omega
        · rw [List.map_cons, List.sum_cons, takeF_G, t2, sumR_app, sumR, u2, hk, k3]
          simp only
          omega
    · -- in the gap
      obtain ⟨g, j1, j2, j3, j4, j5⟩ := ends_gap hg0 hi (fr := fr) (a := a) (by omega) (by omega) (by omega)
      have hk : last.no + 1 + (g.length : Int) = m.no := by rw [j1, hM, hgf, hgt]; omega
      obtain ⟨r, k1, _⟩ := fitF_make true ts m 1 0 h.2
      have z1 := take_zero (fr := a) (to_ := a) hi h.2 (by omega)
      have z2 := take_zero (fr := fr) (to_ := a - 1) (!hi) h.2 (by omega)
      have hz : (if (!hi) then muchG else littleG) = (if hi then littleG else muchG) := by cases hi <;> rfl
      rw [hz] at z2
      rw [hgf] at j4 j5
      refine ⟨g ++ m.coins :: r, ⟨g, r, rfl, j1, j2, j3, k1⟩, ?_, ?_⟩
      · rw [List.map_cons, List.sum_cons, takeF_G, z1, sumR_app, sumR, j4, hk, sumR_out r _ _ _ (by omega)]
        simp only
        omega
      · rw [List.map_cons, List.sum_cons, takeF_G, z2, sumR_app, sumR, j5, hk, sumR_out r _ _ _ (by omega)]
        simp only
        omega
theorem ends_ex {l : List Ms} (hV : ∀ m ∈ l, VMs m) (hf : fitB (srtL l) = true) (hi : Bool) {a : Int} (h1 : 1 ≤ a) (h2 : a ≤ lastM l) :
    ∃ s, Fits l s ∧ sumR 1 s a a = takenV (if hi then muchG else littleG) (srtL l) a a ∧ sumR 1 s 1 (a - 1) = takenV (if hi then littleG else muchG) (srtL l) 1 (a - 1) := by
  obtain ⟨s, k1, k2, k3⟩ := ends_make hi (srtL l) zM 1 a hf (by decide) (by show (0 : Int) < a; omega) (by rw [← lastN_F, lastN_M hV]; exact h2)
  exact ⟨s, (fits_iff hV).2 k1, k2, k3⟩
theorem take_one {s : List Int} {a : Int} (h1 : 1 ≤ a) (h2 : a ≤ s.length) : sumR 1 s a a = s[a.toNat - 1]'(by omega) ∧ (s.take a.toNat).sum = sumR 1 s 1 (a - 1) + sumR 1 s a a := by
  have h3 := take_sum (l := s) (i := a.toNat - 1) (by omega)
  rw [show a.toNat - 1 + 1 = a.toNat from by omega] at h3
  rw [sumR_take s 1 a a h1 (by omega), sumR_take s 1 1 (a - 1) (by omega) (by omega), show (a + 1 - 1).toNat = a.toNat from by omega, show (a - 1).toNat = a.toNat - 1 from by omega, show (a - 1 + 1 - 1).toNat = a.toNat - 1 from by omega]
  simp only [Int.sub_self, Int.toNat_zero, List.take_zero, List.sum_nil]
  omega
theorem lastM_add {l : List Ms} {m : Ms} (h : m.no ≤ lastM l) : lastM (l ++ [m]) = lastM l := by
  unfold lastM at *
  rw [List.foldl_append]
  show max _ m.no = _
  omega
/-- With a message of a sale that tells what sales that fit have, nothing contradicts itself. -/
theorem fixed_ok {l : List Ms} {s : List Int} {a c : Int} (hl : l.length ≤ 29) (hV : ∀ m ∈ l, VMs m) (h : Fits l s) (h1 : 1 ≤ a) (h2 : a ≤ lastM l) (hc : sumR 1 s a a = c) : readE (l ++ [⟨a, c, sumR 1 s 1 (a - 1) + c⟩]) = 0 := by
  have hlen := h.len
  have h60 := lastM_60 hV
  obtain ⟨e1, e2⟩ := take_one (s := s) h1 (by omega)
  have ho := h.ok _ (List.getElem_mem (show a.toNat - 1 < s.length by omega))
  unfold okS at ho
  have hb := sum_bd1 (s.take a.toNat) fun x hx => h.ok x (List.mem_of_mem_take hx)
  rw [List.length_take] at hb
  have hV2 : ∀ m ∈ l ++ [(⟨a, c, sumR 1 s 1 (a - 1) + c⟩ : Ms)], VMs m := fun m hm => by
    rcases List.mem_append.1 hm with hm | hm
    · exact hV m hm
    · rw [List.mem_singleton.1 hm]
      exact ⟨h1, by simp only; omega, by simp only; omega, by simp only; omega, by simp only; omega, by simp only; omega⟩
  refine readE_0 (by rw [List.length_append]; simp only [List.length_cons, List.length_nil]; omega) hV2 ((fit_ex hV2).2 ⟨s, ?_, h.ok, fun m hm => ?_, fun m hm => ?_⟩)
  · rw [lastM_add (by exact h2)]; exact hlen
  · rcases List.mem_append.1 hm with hm | hm
    · exact h.at_ m hm
    · rw [List.mem_singleton.1 hm]
      simp only
      rw [List.getElem?_eq_getElem (by omega), ← hc, e1]
  · rcases List.mem_append.1 hm with hm | hm
    · exact h.sum m hm
    · rw [List.mem_singleton.1 hm]
      simp only
      rw [e2, hc]
theorem fixed_in {l : List Ms} {a c t : Int} (hV : ∀ m ∈ l, VMs m) (h1 : 1 ≤ a) (h2 : a ≤ lastM l) (h : readE (l ++ [⟨a, c, t⟩]) = 0) : takenV littleG (srtL l) a a ≤ c ∧ c ≤ takenV muchG (srtL l) a a := by
  obtain ⟨_, hV2, hf⟩ := read_of h
  obtain ⟨s, hs⟩ := (fit_ex hV2).1 hf
  have h3 := (fits_less hV2 hs (l' := l) (fun m hm => List.mem_append_left _ hm)).2
  have hla : lastM (l ++ [(⟨a, c, t⟩ : Ms)]) = lastM l := lastM_add (by exact h2)
  have hlen := hs.len
  rw [hla] at hlen
  have h4 := taken_le hV h3 a a
  rw [sumR_less s _ h1 (Int.le_refl _) (by omega)] at h4
  have e1 := (take_one (s := s) h1 (by omega)).1
  have e2 := hs.at_ ⟨a, c, t⟩ (by simp)
  simp only at e2
  rw [List.getElem?_eq_getElem (by omega)] at e2
  have e3 : s[a.toNat - 1]'(by omega) = c := by simpa using e2
  omega
theorem one_bd {l : List Ms} (hV : ∀ m ∈ l, VMs m) (hf : fitB (srtL l) = true) {a : Int} (h1 : 1 ≤ a) (h2 : a ≤ lastM l) : 1 ≤ takenV littleG (srtL l) a a ∧ takenV littleG (srtL l) a a ≤ takenV muchG (srtL l) a a ∧ takenV muchG (srtL l) a a ≤ 1000 := by
  obtain ⟨s1, f1, e1⟩ := taken_ex hV hf false a a
  obtain ⟨s2, f2, e2⟩ := taken_ex hV hf true a a
  rw [if_neg (by decide)] at e1
  rw [if_pos rfl] at e2
  have l1 := f1.len
  have l2 := f2.len
  have g1 := (take_one (s := s1) h1 (by omega)).1
  have g2 := (take_one (s := s2) h1 (by omega)).1
  have o1 := f1.ok _ (List.getElem_mem (show a.toNat - 1 < s1.length by omega))
  have o2 := f2.ok _ (List.getElem_mem (show a.toNat - 1 < s2.length by omega))
  have b3 := taken_le hV f1 a a
  unfold okS at o1 o2
  omega
theorem ahead_0 {l : List Ms} (hf : fitB (srtL l) = true) (hi : Bool) : takenV (if hi then muchG else littleG) (srtL l) 1 0 = 0 := take_zero hi hf (Int.le_refl _)
end Go.Proofs.Ytjbmkdbgobmclaa

/- Own texts, laid together: B20 B21 OB. Nothing is asked. -/
import Derived.Test.YthpkgabckklojaaGreatZD
import Derived.Test.YthpkgabckklojaaGreatZ5
import Derived.Test.YthpkgabckklojaaGreatZ3
set_option linter.unusedSimpArgs false
set_option linter.unusedVariables false
/- Bill, plain: sales that fit messages. -/
namespace Go.Proofs.YthpkgabckklojaaGreat.Bl
open Go.RowKit Go.Shelf

def okS (x : Int) : Prop := 1 ≤ x ∧ x ≤ 1000
/-- What those of some sales have, that have a number from one to another; the first one's number. -/
def sumR : Int → List Int → Int → Int → Int
  | _, [], _, _ => 0
  | k, x :: xs, fr, to_ => (if inI k fr to_ = true then x else 0) + sumR (k + 1) xs fr to_
theorem sumR_app : ∀ (xs ys : List Int) (k fr to_ : Int), sumR k (xs ++ ys) fr to_ = sumR k xs fr to_ + sumR (k + xs.length) ys fr to_
  | [], ys, k, fr, to_ => by simp [sumR]
  | x :: xs, ys, k, fr, to_ => by
    rw [List.cons_append, sumR, sumR, sumR_app xs ys, List.length_cons, show k + 1 + (xs.length : Int) = k + ((xs.length + 1 : Nat) : Int) from by omega]
    omega
def cntR : Int → Nat → Int → Int → Int
  | _, 0, _, _ => 0
  | k, n + 1, fr, to_ => (if inI k fr to_ = true then 1 else 0) + cntR (k + 1) n fr to_
theorem cntR_eq : ∀ (n : Nat) (k fr to_ : Int), cntR k n fr to_ = max 0 (min to_ (k + n - 1) - max fr k + 1)
  | 0, k, fr, to_ => by simp only [cntR]; omega
  | n + 1, k, fr, to_ => by
    rw [cntR, cntR_eq n]
    by_cases h : inI k fr to_ = true
    · rw [if_pos h]; have := inI_iff.1 h; omega
    · rw [if_neg h]; have h' : ¬ (fr ≤ k ∧ k ≤ to_) := fun e => h (inI_iff.2 e); omega
theorem cntR_0 (n : Nat) (k fr to_ : Int) : 0 ≤ cntR k n fr to_ := by rw [cntR_eq]; omega
theorem sumR_bd : ∀ (s : List Int) (k fr to_ : Int), (∀ x ∈ s, okS x) → cntR k s.length fr to_ ≤ sumR k s fr to_ ∧ sumR k s fr to_ ≤ 1000 * cntR k s.length fr to_ ∧ (s.length : Int) - cntR k s.length fr to_ ≤ s.sum - sumR k s fr to_ ∧ s.sum - sumR k s fr to_ ≤ 1000 * ((s.length : Int) - cntR k s.length fr to_)
  | [], k, fr, to_, _ => by simp [sumR, cntR]
  | x :: s, k, fr, to_, h => by
    have h1 := h x (List.mem_cons_self ..)
    have h2 := sumR_bd s (k + 1) fr to_ fun y hy => h y (List.mem_cons_of_mem _ hy)
    unfold okS at h1
    rw [List.length_cons, cntR, sumR, List.sum_cons]
    by_cases h3 : inI k fr to_ = true
    · rw [if_pos h3, if_pos h3]; omega
    · rw [if_neg h3, if_neg h3]; omega
theorem sumR_make : ∀ (n : Nat) (k fr to_ c d : Int), cntR k n fr to_ ≤ c → c ≤ 1000 * cntR k n fr to_ → (n : Int) - cntR k n fr to_ ≤ d → d ≤ 1000 * ((n : Int) - cntR k n fr to_) → ∃ s : List Int, s.length = n ∧ (∀ x ∈ s, okS x) ∧ s.sum = c + d ∧ sumR k s fr to_ = c
  | 0, k, fr, to_, c, d, h1, h2, h3, h4 => by
    simp only [cntR] at h1 h2 h3 h4
    exact ⟨[], rfl, by simp, by simp; omega, by simp only [sumR]; omega⟩
  | n + 1, k, fr, to_, c, d, h1, h2, h3, h4 => by
    rw [cntR] at h1 h2 h3 h4
    have hq := cntR_0 n (k + 1) fr to_
    have hq2 : cntR (k + 1) n fr to_ ≤ n := by rw [cntR_eq]; omega
    generalize hQ : cntR (k + 1) n fr to_ = q at h1 h2 h3 h4 hq hq2
    by_cases h : inI k fr to_ = true
    · rw [if_pos h] at h1 h2 h3 h4
      obtain ⟨s, e1, e2, e3, e4⟩ := sumR_make n (k + 1) fr to_ (c - min 1000 (c - q)) d (by omega) (by omega) (by omega) (by omega)
      refine ⟨min 1000 (c - q) :: s, by rw [List.length_cons, e1], fun x hx => ?_, by rw [List.sum_cons, e3]; omega, by rw [sumR, if_pos h, e4]; omega⟩
      rcases List.mem_cons.1 hx with rfl | hx
      · unfold okS; omega
      · exact e2 x hx
    · rw [if_neg h] at h1 h2 h3 h4
      obtain ⟨s, e1, e2, e3, e4⟩ := sumR_make n (k + 1) fr to_ c (d - min 1000 (d - (n - q))) (by omega) (by omega) (by omega) (by omega)
      refine ⟨min 1000 (d - (n - q)) :: s, by rw [List.length_cons, e1], fun x hx => ?_, by rw [List.sum_cons, e3]; omega, by rw [sumR, if_neg h, e4]; omega⟩
      rcases List.mem_cons.1 hx with rfl | hx
      · unfold okS; omega
      · exact e2 x hx
/-- Sales behind a message, that fit those that follow. -/
def FitF : Ms → List Ms → List Int → Prop
  | _, [], s => s = []
  | last, m :: ts, s => ∃ g r, s = g ++ m.coins :: r ∧ (g.length : Int) = manyG (gapOf last m) ∧ g.sum = (gapOf last m).co ∧ (∀ x ∈ g, okS x) ∧ FitF m ts r
theorem gap_many (last m : Ms) : manyG (gapOf last m) = m.no - last.no - 1 := by unfold manyG gapOf; simp only; omega
theorem cnt_some {g : Gp} {s : List Int} {fr to_ : Int} (h1 : (s.length : Int) = manyG g) : cntR g.fr s.length fr to_ = max 0 (someG g fr to_) := by
  rw [cntR_eq]
  unfold someG
  unfold manyG at h1
  omega
def takeG (fv : Gp → Int → Int) (fr to_ : Int) (g : Gp) : Int := if someG g fr to_ > 0 then fv g (someG g fr to_) else 0
theorem gap_le {g : Gp} {s : List Int} (fr to_ : Int) (h1 : (s.length : Int) = manyG g) (h2 : s.sum = g.co) (h3 : ∀ x ∈ s, okS x) : okG g = true ∧ takeG littleG fr to_ g ≤ sumR g.fr s fr to_ ∧ sumR g.fr s fr to_ ≤ takeG muchG fr to_ g := by
  have h4 := sumR_bd s g.fr fr to_ h3
  have hc := cnt_some (fr := fr) (to_ := to_) h1
  have hle : max 0 (someG g fr to_) ≤ manyG g := by unfold someG manyG; unfold manyG at h1; omega
  rw [hc, h2, h1] at h4
  refine ⟨okG_iff.2 (by omega), ?_⟩
  unfold takeG littleG muchG
  split <;> omega
theorem gap_make {g : Gp} (hi : Bool) (fr to_ : Int) (h : okG g = true) : ∃ s : List Int, (s.length : Int) = manyG g ∧ s.sum = g.co ∧ (∀ x ∈ s, okS x) ∧ sumR g.fr s fr to_ = takeG (if hi then muchG else littleG) fr to_ g := by
  obtain ⟨h1, h2, h3⟩ := okG_iff.1 h
  have hn : ((manyG g).toNat : Int) = manyG g := by omega
  have hc : cntR g.fr (manyG g).toNat fr to_ = max 0 (someG g fr to_) := by
    rw [cntR_eq]; unfold someG; unfold manyG at h1 hn ⊢; omega
  have hle : max 0 (someG g fr to_) ≤ manyG g := by unfold someG manyG; unfold manyG at h1; omega
  obtain ⟨s, e1, e2, e3, e4⟩ := sumR_make (manyG g).toNat g.fr fr to_ (takeG (if hi then muchG else littleG) fr to_ g) (g.co - takeG (if hi then muchG else littleG) fr to_ g)
    (by rw [hc]; unfold takeG littleG muchG; cases hi <;> simp only [if_true, if_false, Bool.false_eq_true] <;> split <;> omega)
    (by rw [hc]; unfold takeG littleG muchG; cases hi <;> simp only [if_true, if_false, Bool.false_eq_true] <;> split <;> omega)
    (by rw [hc, hn]; unfold takeG littleG muchG; cases hi <;> simp only [if_true, if_false, Bool.false_eq_true] <;> split <;> omega)
    (by rw [hc, hn]; unfold takeG littleG muchG; cases hi <;> simp only [if_true, if_false, Bool.false_eq_true] <;> split <;> omega)
  exact ⟨s, by rw [e1, hn], by rw [e3]; omega, e2, e4⟩
theorem takeF_G (fv : Gp → Int → Int) (fr to_ : Int) (z : Gp × Ms) : takeF fv fr to_ z = takeG fv fr to_ z.1 + (if inI z.2.no fr to_ = true then z.2.coins else 0) := rfl
theorem fitF_le : ∀ (ts : List Ms) (last : Ms) (s : List Int) (fr to_ : Int), FitF last ts s → ((gapsF last ts).all fun z => okG z.1) = true ∧ ((gapsF last ts).map (takeF littleG fr to_)).sum ≤ sumR (last.no + 1) s fr to_ ∧ sumR (last.no + 1) s fr to_ ≤ ((gapsF last ts).map (takeF muchG fr to_)).sum
  | [], last, s, fr, to_, h => by
    obtain rfl : s = [] := h
    exact ⟨rfl, Int.le_refl _, Int.le_refl _⟩
  | m :: ts, last, s, fr, to_, h => by
    obtain ⟨g, r, rfl, h1, h2, h3, h4⟩ := h
    obtain ⟨i1, i2, i3⟩ := fitF_le ts m r fr to_ h4
    obtain ⟨j1, j2, j3⟩ := gap_le fr to_ h1 h2 h3
    have hk : last.no + 1 + (g.length : Int) = m.no := by rw [h1, gap_many]; omega
    unfold gapsF
    rw [List.all_cons, Bool.and_eq_true, List.map_cons, List.map_cons, List.sum_cons, List.sum_cons, takeF_G, takeF_G, sumR_app, sumR, hk]
    refine ⟨⟨j1, i1⟩, ?_, ?_⟩
    · have : (gapOf last m).fr = last.no + 1 := rfl
      rw [this] at j2
      simp only
      omega
    · have : (gapOf last m).fr = last.no + 1 := rfl
      rw [this] at j3
      simp only
      omega
theorem fitF_make (hi : Bool) : ∀ (ts : List Ms) (last : Ms) (fr to_ : Int), ((gapsF last ts).all fun z => okG z.1) = true → ∃ s, FitF last ts s ∧ sumR (last.no + 1) s fr to_ = ((gapsF last ts).map (takeF (if hi then muchG else littleG) fr to_)).sum
  | [], last, fr, to_, _ => ⟨[], rfl, rfl⟩
  | m :: ts, last, fr, to_, h => by
    unfold gapsF at h ⊢
    rw [List.all_cons, Bool.and_eq_true] at h
    obtain ⟨r, i1, i2⟩ := fitF_make hi ts m fr to_ h.2
    obtain ⟨g, j1, j2, j3, j4⟩ := gap_make hi fr to_ h.1
    have hk : last.no + 1 + (g.length : Int) = m.no := by rw [j1, gap_many]; omega
    refine ⟨g ++ m.coins :: r, ⟨g, r, rfl, j1, j2, j3, i1⟩, ?_⟩
    have : (gapOf last m).fr = last.no + 1 := rfl
    rw [this] at j4
    rw [List.map_cons, List.sum_cons, takeF_G, sumR_app, sumR, hk, j4, i2]
    simp only
    omega
/-- The number of the last one of messages in order. -/
def lastF : Ms → List Ms → Int
  | last, [] => last.no
  | _, m :: ts => lastF m ts
structure FitD (last : Ms) (ts : List Ms) (s : List Int) : Prop where
  len : (s.length : Int) = lastF last ts - last.no
  ok : ∀ x ∈ s, okS x
  up : ts.Pairwise fun a b => a.no < b.no
  no : ∀ m ∈ ts, last.no < m.no
  at_ : ∀ m ∈ ts, s[(m.no - last.no).toNat - 1]? = some m.coins
  sum : ∀ m ∈ ts, (s.take (m.no - last.no).toNat).sum = m.total - last.total
theorem fitF_to : ∀ (ts : List Ms) (last : Ms) (s : List Int), (∀ m ∈ ts, okS m.coins) → FitF last ts s → FitD last ts s
  | [], last, s, _, h => by
    obtain rfl : s = [] := h
    exact ⟨by simp [lastF], by simp, .nil, by simp, by simp, by simp⟩
  | m :: ts, last, s, hV, h => by
    obtain ⟨g, r, rfl, h1, h2, h3, h4⟩ := h
    have ih := fitF_to ts m r (fun x hx => hV x (List.mem_cons_of_mem _ hx)) h4
    have hm := hV m (List.mem_cons_self ..)
    rw [gap_many] at h1
    have h2 : g.sum = m.total - m.coins - last.total := h2
    have hml : last.no < m.no := by omega
    have htn : (m.no - last.no).toNat = g.length + 1 := by omega
    have e0 : ∀ m' ∈ ts, (m'.no - last.no).toNat = g.length + 1 + (m'.no - m.no).toNat ∧ 1 ≤ (m'.no - m.no).toNat := fun m' hm' => by have := ih.no m' hm'; omega
    refine ⟨?_, fun x hx => ?_, List.pairwise_cons.2 ⟨ih.no, ih.up⟩, fun m' hm' => ?_, fun m' hm' => ?_, fun m' hm' => ?_⟩
    · have := ih.len
      rw [List.length_append, List.length_cons, lastF]
      omega
    · rcases List.mem_append.1 hx with hx | hx
      · exact h3 x hx
      · rcases List.mem_cons.1 hx with rfl | hx
        · exact hm
        · exact ih.ok x hx
    · rcases List.mem_cons.1 hm' with rfl | hm'
      · exact hml
      · have := ih.no m' hm'; omega
    · rcases List.mem_cons.1 hm' with rfl | hm'
      · rw [htn]; simp
      · obtain ⟨e1, e2⟩ := e0 m' hm'
        have e3 := ih.at_ m' hm'
        rw [e1, List.getElem?_append_right (by omega), show g.length + 1 + (m'.no - m.no).toNat - 1 - g.length = ((m'.no - m.no).toNat - 1) + 1 from by omega, List.getElem?_cons_succ]
        exact e3
    · rcases List.mem_cons.1 hm' with rfl | hm'
      · rw [htn, List.take_append, List.take_of_length_le (by omega), show g.length + 1 - g.length = 1 from by omega, List.sum_append]
        simp
        omega
      · obtain ⟨e1, e2⟩ := e0 m' hm'
        have e3 := ih.sum m' hm'
        rw [e1, List.take_append, List.take_of_length_le (by omega), show g.length + 1 + (m'.no - m.no).toNat - g.length = (m'.no - m.no).toNat + 1 from by omega, List.sum_append, List.take_succ_cons, List.sum_cons, e3]
        omega
theorem fitF_of : ∀ (ts : List Ms) (last : Ms) (s : List Int), FitD last ts s → FitF last ts s
  | [], last, s, h => by
    have := h.len
    simp only [lastF] at this
    exact List.eq_nil_of_length_eq_zero (by omega)
  | m :: ts, last, s, h => by
    have hml := h.no m (List.mem_cons_self ..)
    have hup := List.pairwise_cons.1 h.up
    have ha := h.at_ m (List.mem_cons_self ..)
    have hs := h.sum m (List.mem_cons_self ..)
    generalize hp : (m.no - last.no).toNat = p at ha hs
    obtain ⟨hpl, hpe⟩ := List.getElem?_eq_some_iff.1 ha
    have hse : s = s.take (p - 1) ++ m.coins :: s.drop p := by
      conv => lhs; rw [← List.take_append_drop (p - 1) s, List.drop_eq_getElem_cons hpl, hpe, show p - 1 + 1 = p from by omega]
    have htl : (s.take (p - 1)).length = p - 1 := by rw [List.length_take]; omega
    have hsm : (s.take p).sum = (s.take (p - 1)).sum + m.coins := by
      conv => lhs; rw [show p = p - 1 + 1 from by omega, List.take_succ_eq_append_getElem hpl, hpe, List.sum_append]
      simp
    refine ⟨s.take (p - 1), s.drop p, hse, by rw [htl, gap_many]; omega, ?_, fun x hx => h.ok x (List.mem_of_mem_take hx), fitF_of ts m (s.drop p) ⟨?_, fun x hx => h.ok x (List.mem_of_mem_drop hx), hup.2, hup.1, fun m' hm' => ?_, fun m' hm' => ?_⟩⟩
    · show _ = m.total - m.coins - last.total
      omega
    · have := h.len
      rw [List.length_drop]
      rw [lastF] at this
      omega
    · have h1 := h.at_ m' (List.mem_cons_of_mem _ hm')
      have h2 := hup.1 m' hm'
      rw [List.getElem?_drop, ← h1]
      congr 1
      omega
    · have h1 := h.sum m' (List.mem_cons_of_mem _ hm')
      have h2 := hup.1 m' hm'
      rw [show (m'.no - last.no).toNat = p + (m'.no - m.no).toNat from by omega, List.take_add, List.sum_append, hs] at h1
      omega
/-- The greatest number of messages. -/
def lastM (l : List Ms) : Int := l.foldl (fun n m => max n m.no) 0
theorem lastM_go : ∀ (l : List Ms) (n : Int), n ≤ l.foldl (fun n m => max n m.no) n ∧ (∀ m ∈ l, m.no ≤ l.foldl (fun n m => max n m.no) n) ∧ (l.foldl (fun n m => max n m.no) n = n ∨ ∃ m ∈ l, l.foldl (fun n m => max n m.no) n = m.no)
  | [], n => ⟨Int.le_refl _, by simp, .inl rfl⟩
  | x :: l, n => by
    obtain ⟨h1, h2, h3⟩ := lastM_go l (max n x.no)
    rw [List.foldl_cons]
    refine ⟨by omega, fun m hm => ?_, ?_⟩
    · rcases List.mem_cons.1 hm with rfl | hm
      · omega
      · exact h2 m hm
    · rcases h3 with h3 | ⟨m, hm, h3⟩
      · by_cases h : n ≤ x.no
        · exact .inr ⟨x, List.mem_cons_self .., by rw [h3]; omega⟩
        · exact .inl (by rw [h3]; omega)
      · exact .inr ⟨m, List.mem_cons_of_mem _ hm, h3⟩
theorem lastM_le {l : List Ms} {m : Ms} (h : m ∈ l) : m.no ≤ lastM l := (lastM_go l 0).2.1 m h
theorem lastM_0 (l : List Ms) : 0 ≤ lastM l := (lastM_go l 0).1
theorem lastM_eq {l : List Ms} : lastM l = 0 ∨ ∃ m ∈ l, lastM l = m.no := (lastM_go l 0).2.2
theorem lastF_eq : ∀ (ts : List Ms) (last : Ms), ts.Pairwise (fun a b => a.no ≤ b.no) → (∀ m ∈ ts, m.no ≤ lastF last ts) ∧ (ts = [] ∧ lastF last ts = last.no ∨ ∃ m ∈ ts, lastF last ts = m.no)
  | [], last, _ => ⟨by simp, .inl ⟨rfl, rfl⟩⟩
  | m :: ts, last, h => by
    have h0 := List.pairwise_cons.1 h
    obtain ⟨h1, h2⟩ := lastF_eq ts m h0.2
    rw [lastF]
    have h3 : m.no ≤ lastF m ts := by
      rcases h2 with ⟨_, h2⟩ | ⟨x, hx, h2⟩
      · omega
      · rw [h2]; exact h0.1 x hx
    refine ⟨fun x hx => ?_, .inr ?_⟩
    · rcases List.mem_cons.1 hx with rfl | hx
      · exact h3
      · exact h1 x hx
    · rcases h2 with ⟨_, h2⟩ | ⟨x, hx, h2⟩
      · exact ⟨m, List.mem_cons_self .., h2⟩
      · exact ⟨x, List.mem_cons_of_mem _ hx, h2⟩
theorem lastF_N : ∀ (ts : List Ms) (last : Ms), lastF last ts = if h : 0 < ts.length then ts[ts.length - 1].no else last.no
  | [], last => by rw [dif_neg (by simp)]; rfl
  | [m], last => rfl
  | m :: m2 :: ts, last => by
    rw [lastF, lastF_N (m2 :: ts) m, dif_pos (by simp), dif_pos (by simp)]
    rfl
theorem lastN_F (ts : List Ms) : lastN ts = lastF zM ts := by rw [lastF_N]; rfl
theorem lastN_M {l : List Ms} (hV : ∀ m ∈ l, VMs m) : lastN (srtL l) = lastM l := by
  rw [lastN_F]
  obtain ⟨h1, h2⟩ := lastF_eq (srtL l) zM (srt_up l)
  rcases lastM_eq (l := l) with h | ⟨m, hm, h⟩
  · rcases h2 with ⟨h3, h4⟩ | ⟨m, hm, h4⟩
    · rw [h, h4]
    · have := lastM_le (srt_mem.1 hm)
      have := (hV m (srt_mem.1 hm)).n0
      omega
  · have h5 := h1 m (srt_mem.2 hm)
    rcases h2 with ⟨h3, h4⟩ | ⟨m', hm', h4⟩
    · have : m ∈ srtL l := srt_mem.2 hm
      rw [h3] at this; cases this
    · have := lastM_le (srt_mem.1 hm')
      omega
/-- Sales fit messages. -/
structure Fits (l : List Ms) (s : List Int) : Prop where
  len : (s.length : Int) = lastM l
  ok : ∀ x ∈ s, okS x
  at_ : ∀ m ∈ l, s[m.no.toNat - 1]? = some m.coins
  sum : ∀ m ∈ l, (s.take m.no.toNat).sum = m.total
theorem Fits.up {l : List Ms} {s : List Int} (h : Fits l s) : (srtL l).Pairwise fun a b => a.no < b.no := by
  have h1 := srt_up l
  have h2 : (srtL l).Nodup := (srt_perm l).nodup_iff.2 (dd_nodup l)
  rw [List.pairwise_iff_getElem] at h1 ⊢
  intro i j hi hj hij
  have h3 := h1 i j hi hj hij
  refine Int.lt_iff_le_and_ne.2 ⟨h3, fun e => ?_⟩
  have a1 := h.at_ _ (srt_mem.1 (List.getElem_mem hi))
  have a2 := h.at_ _ (srt_mem.1 (List.getElem_mem hj))
  have b1 := h.sum _ (srt_mem.1 (List.getElem_mem hi))
  have b2 := h.sum _ (srt_mem.1 (List.getElem_mem hj))
  rw [e] at a1 b1
  rw [a1] at a2
  rw [b1] at b2
  have : (srtL l)[i] = (srtL l)[j] := Ms.ext'.2 ⟨e, by simpa using a2, b2⟩
  exact absurd ((List.getElem_inj h2).1 this) (by omega)
theorem fits_iff {l : List Ms} {s : List Int} (hV : ∀ m ∈ l, VMs m) : Fits l s ↔ FitF zM (srtL l) s := by
  constructor
  · intro h
    refine fitF_of _ _ _ ⟨?_, h.ok, h.up, fun m hm => ?_, fun m hm => ?_, fun m hm => ?_⟩
    · rw [h.len, ← lastN_F, lastN_M hV]; show _ = _ - (0 : Int); omega
    · exact (hV m (srt_mem.1 hm)).n0
    · have := h.at_ m (srt_mem.1 hm); show s[(m.no - 0).toNat - 1]? = _; rw [Int.sub_zero]; exact this
    · have := h.sum m (srt_mem.1 hm); show (s.take (m.no - 0).toNat).sum = m.total - 0; rw [Int.sub_zero, Int.sub_zero]; exact this
  · intro h
    have h2 := fitF_to _ _ _ (fun m hm => ⟨(hV m (srt_mem.1 hm)).c0, (hV m (srt_mem.1 hm)).c1⟩) h
    refine ⟨?_, h2.ok, fun m hm => ?_, fun m hm => ?_⟩
    · have := h2.len
      rw [← lastN_F, lastN_M hV] at this
      have e : this = this := rfl
      show _ = lastM l
      have h0 : zM.no = 0 := rfl
      omega
    · have := h2.at_ m (srt_mem.2 hm); rw [show m.no - zM.no = m.no from Int.sub_zero _] at this; exact this
    · have := h2.sum m (srt_mem.2 hm); rw [show m.no - zM.no = m.no from Int.sub_zero _, show m.total - zM.total = m.total from Int.sub_zero _] at this; exact this
/-- Messages do not contradict themselves just if some sales fit. -/
theorem fit_ex {l : List Ms} (hV : ∀ m ∈ l, VMs m) : fitB (srtL l) = true ↔ ∃ s, Fits l s := by
  constructor
  · intro h
    obtain ⟨s, h1, _⟩ := fitF_make true (srtL l) zM 0 0 h
    exact ⟨s, (fits_iff hV).2 h1⟩
  · rintro ⟨s, h⟩
    exact (fitF_le _ _ _ 0 0 ((fits_iff hV).1 h)).1
theorem taken_le {l : List Ms} {s : List Int} (hV : ∀ m ∈ l, VMs m) (h : Fits l s) (fr to_ : Int) : takenV littleG (srtL l) fr to_ ≤ sumR 1 s fr to_ ∧ sumR 1 s fr to_ ≤ takenV muchG (srtL l) fr to_ :=
  (fitF_le _ _ _ fr to_ ((fits_iff hV).1 h)).2
theorem taken_ex {l : List Ms} (hV : ∀ m ∈ l, VMs m) (hf : fitB (srtL l) = true) (hi : Bool) (fr to_ : Int) : ∃ s, Fits l s ∧ sumR 1 s fr to_ = takenV (if hi then muchG else littleG) (srtL l) fr to_ := by
  obtain ⟨s, h1, h2⟩ := fitF_make hi (srtL l) zM fr to_ hf
  exact ⟨s, (fits_iff hV).2 h1, h2⟩
end Go.Proofs.YthpkgabckklojaaGreat.Bl

/- Walks of the laws and the reference of bill: copies, and what is valid. -/
namespace Go.Proofs.YthpkgabckklojaaGreat.Bl
open Go.RowKit Go.Shelf

theorem snoc_len {α : Type} {l : List α} {i : Nat} (h : i < l.length) : (l.take i).length + 1 = (l.take (i + 1)).length := by rw [take_snoc h, List.length_append]; rfl
theorem snoc_flat {α : Type} (e : α → List Value) {l : List α} {i : Nat} (h : i < l.length) : (l.take i).flatMap e ++ e l[i] = (l.take (i + 1)).flatMap e := by rw [take_snoc h, List.flatMap_append, List.flatMap_cons, List.flatMap_nil, List.append_nil]
theorem all_snoc {α : Type} {p : α → Bool} {l : List α} {i : Nat} (h : i < l.length) (h1 : (l.take i).all p = true) (h2 : p l[i] = true) : (l.take (i + 1)).all p = true := by
  rw [take_snoc h, List.all_append, h1]; simp [h2]
theorem all_no {α : Type} {p : α → Bool} {l : List α} {i : Nat} (h : i < l.length) (h2 : p l[i] = false) : l.all p = false := by
  cases ha : l.all p
  · rfl
  · have := List.all_eq_true.1 ha _ (List.getElem_mem h); rw [h2] at this; cases this
theorem lAm_j (x : Am) : Cv Tryz.prog 38 [.agg #[I x.g, I x.q, I x.s]] KTrue (.agg #[I x.g, I x.q, I x.s]) := by
  refine Cx_of Tryz.func38 rfl Tryz.ntmps38 rfl fun w0 M0 => ?_
  refine JC_seq ?_
  refine JC_region ?_
  refine JL_step rfl rfl rfl (jo_box rfl rfl) fun b1 => ?_
  refine JL_step rfl rfl rfl (jo_alloc0 Tryz.zeroValue101 rfl) fun b2 => ?_
  refine JL_nil ?_
  refine JE_seq ?_
  refine JC_seq ?_
  refine JC_region ?_
  refine JL_pd rfl (det_fieldAddr rfl fo_96_0) ?_
  refine JL_dt rfl (det_loadK rfl Tryz.isAgg3 rfl) ?_
  refine JL_pd rfl (det_fieldAddr rfl fo_96_1) ?_
  refine JL_dt rfl (det_loadK rfl Tryz.isAgg3 rfl) ?_
  refine JL_pd rfl (det_fieldAddr rfl fo_96_2) ?_
  refine JL_dt rfl (det_loadK rfl Tryz.isAgg3 rfl) ?_
  refine JL_pd rfl (det_build rfl (bld_101_0_1_2 _ _ _)) ?_
  refine JL_step0 rfl rfl (jo_store rfl rfl rfl (by first | (simp only [splice_norm]; done) | (simp only [splice_norm]; rfl) | rfl) Tryz.sizeOf101 rfl rfl) fun _ => ?_
  refine JL_nil ?_
  refine JE_seq ?_
  refine JC_ret ?_
  -- stop: out
  refine JE_out (.inl rfl) () (results1 Tryz.results38 (res_box rfl Tryz.isAgg101 Tryz.sizeOf101 rfl)) rfl (List.Perm.refl _) (fun _ _ => trivial)
set_option maxRecDepth 100000 in
theorem lOffers_j (a : Option Addr) (c : Nat) (ls : List Of) (hl : ls.length ≤ 1000) : Cr Tryz.prog 37 [.slice a ls.length c] (KSl a ls.length c encO ls) (fun q : Option Addr × Nat => .slice q.1 ls.length q.2) (fun q => KSl q.1 ls.length q.2 encO ls) := by
  refine Cx_of Tryz.func37 rfl Tryz.ntmps37 rfl fun w0 M0 => ?_
  refine JC_seq ?_
  refine JC_region ?_
  refine JL_pd rfl (det_assign rfl) ?_
  refine JL_nil ?_
  refine JE_seq ?_
  refine JC_seq ?_
  refine JC_region ?_
  refine JL_pd rfl (det_assign rfl) ?_
  refine JL_nil ?_
  refine JE_seq ?_
  refine JC_seq ?_
  refine JC_seq ?_
  refine JC_region ?_
  refine JL_pd rfl (det_assign rfl) ?_
  refine JL_nil ?_
  refine JE_seq ?_
  refine JC_block ?_
  -- stop: loop
  refine JC_nil 166 7 ?_
  refine JC_loopF (γ := Nat × Value) (fun q => q.1 ≤ ls.length) (fun q => [(4, I q.1), (3, q.2)]) (fun q => [ow q.2 166 7 (ls.take q.1).length ((ls.take q.1).flatMap encO)]) (fun q => ls.length - q.1) (0, .slice none 0 0) (Nat.zero_le _) (stsub_consI rfl rfl (stsub_cons rfl stsub_nil)) (ht_ow rfl rfl ht_nil) ?_
  rintro ⟨i, v⟩ hi K hK
  dsimp only [List.cons_append, List.nil_append] at hi ⊢
  have hln : (ls.take i).length = i := by rw [List.length_take]; omega
  refine JC_seq ?_
  refine JC_seq ?_
  refine JC_region ?_
  refine JL_pd rfl (det_move rfl) ?_
  refine JL_pd rfl (det_move rfl) ?_
  refine JL_pd rfl (det_len rfl Tryz.runUnderlying81) ?_
  refine JL_pd rfl (det_lss rfl rfl) ?_
  refine JL_nil ?_
  refine JE_seq ?_
  -- stop: cond
  refine JC_if rfl (fun h1 => ?_) (fun h1 => ?_)
  · have hi2 : i < ls.length := by omega
    refine JC_skip ?_
    refine JE_seq ?_
    refine JC_seq ?_
    refine JC_block ?_
    refine JC_seq ?_
    refine JC_region ?_
    refine JL_pd rfl (det_move rfl) ?_
    refine JL_pd rfl (det_move rfl) ?_
    refine JL_dt rfl (det_indexAddr rfl rfl (by first | rfl | omega) (by first | assumption | omega | decide) Tryz.runUnderlying81 Tryz.sizeOf162) ?_
    refine JL_dt rfl (det_loadEA rfl (by first | assumption | omega | decide) Tryz.isAgg162 Tryz.sizeOf162 rfl rfl rfl) ?_
    refine JL_step rfl rfl rfl (jo_alloc0 Tryz.zeroValue162 rfl) fun b5 => ?_
    refine JL_step0 rfl rfl (jo_store rfl rfl rfl (by first | (simp only [splice_norm]; done) | (simp only [splice_norm]; rfl) | rfl) Tryz.sizeOf162 rfl rfl) fun _ => ?_
    refine JL_nil ?_
    refine JE_seq ?_
    refine JC_draw [17] (by kernel_rfl) ?_
    refine JA_pd (i := 0) rfl (by kernel_rfl) rfl rfl (det_move rfl) ?_
    refine JA_pd (i := 1) rfl (by kernel_rfl) rfl rfl (det_fieldAddr rfl fo_162_0) ?_
    refine JA_dt (i := 2) rfl (by kernel_rfl) (by kernel_rfl) rfl rfl (det_loadK rfl Tryz.isAgg3 rfl) ?_
    refine JA_pd (i := 3) rfl (by kernel_rfl) rfl rfl (det_fieldAddr rfl fo_162_1) ?_
    refine JA_dt (i := 4) rfl (by kernel_rfl) (by kernel_rfl) rfl rfl (det_loadKA rfl Tryz.isAgg96 Tryz.sizeOf96 rfl rfl) ?_
    refine JA_pd (i := 6) rfl (by kernel_rfl) rfl rfl (det_fieldAddr rfl fo_162_2) ?_
    refine JA_pd (i := 7) rfl (by kernel_rfl) rfl rfl (det_fieldAddr rfl fo_160_0) ?_
    refine JA_dt (i := 8) rfl (by kernel_rfl) (by kernel_rfl) rfl rfl (det_loadK rfl Tryz.isAgg3 rfl) ?_
    refine JA_pd (i := 9) rfl (by kernel_rfl) rfl rfl (det_fieldAddr rfl fo_162_2) ?_
    refine JA_pd (i := 10) rfl (by kernel_rfl) rfl rfl (det_fieldAddr rfl fo_160_1) ?_
    refine JA_dt (i := 11) rfl (by kernel_rfl) (by kernel_rfl) rfl rfl (det_loadK rfl Tryz.isAgg3 rfl) ?_
    refine JA_pd (i := 12) rfl (by kernel_rfl) rfl rfl (det_build rfl (bld_164_0_1 _ _)) ?_
    refine JA_pd (i := 13) rfl (by kernel_rfl) rfl rfl (det_fieldAddr rfl fo_162_3) ?_
    refine JA_dt (i := 14) rfl (by kernel_rfl) (by kernel_rfl) rfl rfl (det_loadK rfl Tryz.isAgg3 rfl) ?_
    refine JA_one (i := 5) (by kernel_rfl) rfl rfl (jo_callv rfl rfl Tryz.call38 rfl (lAm_j ls[i].am)) (fun _ => ⟨hsub_refl, fun _ h => h⟩) fun _ => ?_
    refine JA_pd (i := 15) rfl (by kernel_rfl) rfl rfl (det_build rfl (bld_166_0_1_2_3 _ _ _ _ _ _ _)) ?_
    refine JA_one (i := 16) (by kernel_rfl) rfl rfl (jo_buildSlice rfl (bsl_99_1_0 _ _ _ _ _ _ _)) (fun _ => ⟨hsub_drop 1 rfl, fun _ h => h⟩) fun b32 => ?_
    refine JA_tail (i := 17) (by kernel_rfl) rfl rfl rfl rfl (jo_append el_99 rfl rfl rfl rfl (by omega)) fun b33 => ?_
    refine JT_pd (i := 18) rfl (by kernel_rfl) rfl rfl (det_assign rfl) ?_
    refine JT_done (by kernel_rfl) ?_
    refine JE_block ?_
    refine JE_seq ?_
    refine JC_region ?_
    refine JL_pd rfl (det_move rfl) ?_
    refine JL_pd rfl (det_add rfl rfl ⟨by omega, by omega⟩) ?_
    refine JL_pd rfl (det_assign rfl) ?_
    refine JL_nil ?_
    -- stop: end
    refine JE_roundF hK (i + 1, .slice (some ⟨b33.1, 0, none⟩) ((ls.take i).length + 1) b33.2) (by simp only; omega) (by simp only; omega) (stsub_consI rfl (by simp only; omega) (stsub_cons rfl stsub_nil)) (ht_ow (snoc_len hi2) (snoc_flat encO hi2) ht_nil)
  · obtain rfl : i = ls.length := by omega
    rw [List.take_length]
    refine JC_slice (enc := encO) (v := v) ls noFp rfl rfl ?_
    rintro av cv rfl
    refine JC_exit ?_
    refine JE_seq_exit ?_
    refine JE_then_exit ?_
    refine JE_block_here ?_
    refine JE_seq ?_
    refine JC_seq ?_
    refine JC_region ?_
    refine JL_pd rfl (det_move rfl) ?_
    refine JL_pd rfl (det_assign rfl) ?_
    refine JL_nil ?_
    refine JE_seq ?_
    refine JC_ret ?_
    -- stop: out
    refine JE_out (.inl rfl) (av, cv) (results1 Tryz.results37 (res_tmp rfl)) rfl (List.Perm.refl _) (fun w h => h.1)
theorem In_j (n lo hi : Int) : Cv Tryz.prog 74 [I n, I lo, I hi] KTrue (.bool (inI n lo hi)) := by
  refine Cx_of Tryz.func74 rfl Tryz.ntmps74 rfl fun w0 M0 => ?_
  refine JC_seq ?_
  refine JC_region ?_
  refine JL_pd rfl (det_assign rfl) ?_
  refine JL_nil ?_
  refine JE_seq ?_
  refine JC_seq ?_
  refine JC_region ?_
  refine JL_pd rfl (det_move rfl) ?_
  refine JL_pd rfl (det_move rfl) ?_
  refine JL_pd rfl (det_geq rfl rfl) ?_
  refine JL_pd rfl (det_move rfl) ?_
  refine JL_split (d0 := 10) rfl (fun h1 => ?_) (fun h1 => ?_)
  · refine JL_guard rfl rfl h1 ?_
    refine JL_pd rfl (det_move rfl) ?_
    refine JL_guard rfl rfl h1 ?_
    refine JL_pd rfl (det_move rfl) ?_
    refine JL_guard rfl rfl h1 ?_
    refine JL_pd rfl (det_leq rfl rfl) ?_
    refine JL_pd rfl (det_pick_t rfl h1 rfl) ?_
    refine JL_pd rfl (det_assign rfl) ?_
    refine JL_nil ?_
    refine JE_seq ?_
    refine JC_ret ?_
    refine JE_out (.inl rfl) () (results1 Tryz.results74 (res_tmp rfl)) ?_ (List.Perm.refl _) (fun _ _ => trivial)
    (simp_all [inI])
    (try omega)
  · refine JL_skip rfl rfl h1 rfl ?_
    refine JL_skip rfl rfl h1 rfl ?_
    refine JL_skip rfl rfl h1 rfl ?_
    refine JL_pd rfl (det_pick_f rfl h1 rfl) ?_
    refine JL_pd rfl (det_assign rfl) ?_
    refine JL_nil ?_
    refine JE_seq ?_
    refine JC_ret ?_
    refine JE_out (.inl rfl) () (results1 Tryz.results74 (res_tmp rfl)) ?_ (List.Perm.refl _) (fun _ _ => trivial)
    (simp_all [inI])
    (try omega)
theorem IsAmount_j (x : Am) : Cv Tryz.prog 75 [.agg #[I x.g, I x.q, I x.s]] KTrue (.bool (amOk x)) := by
  refine Cx_of Tryz.func75 rfl Tryz.ntmps75 rfl fun w0 M0 => ?_
  refine JC_seq ?_
  refine JC_region ?_
  refine JL_step rfl rfl rfl (jo_box rfl rfl) fun b1 => ?_
  refine JL_pd rfl (det_assign rfl) ?_
  refine JL_nil ?_
  refine JE_seq ?_
  refine JC_seq ?_
  refine JC_region ?_
  refine JL_pd rfl (det_fieldAddr rfl fo_96_0) ?_
  refine JL_dt rfl (det_loadK rfl Tryz.isAgg3 rfl) ?_
  refine JL_step rfl rfl rfl (jo_callv rfl rfl Tryz.call74 rfl (In_j _ _ _)) fun _ => ?_
  refine JL_pd rfl (det_move rfl) ?_
  -- stop: guard 3
  refine JL_join1 10 2 (.bool (amOk x)) (fun hj => ?_) ?_
  · refine JL_split (d0 := 6) rfl (fun q2 => ?_) (fun q2 => ?_)
    · refine JL_guard rfl rfl q2 ?_
      refine JL_pd rfl (det_fieldAddr rfl fo_96_1) ?_
      refine JL_guard rfl rfl q2 ?_
      refine JL_dt rfl (det_loadK rfl Tryz.isAgg3 rfl) ?_
      refine JL_guard rfl rfl q2 ?_
      refine JL_step rfl rfl rfl (jo_callv rfl rfl Tryz.call74 rfl (In_j _ _ _)) fun _ => ?_
      refine JL_pd rfl (det_pick_t rfl q2 rfl) ?_
      refine JL_pd rfl (det_move rfl) ?_
      refine JL_split (d0 := 11) rfl (fun q3 => ?_) (fun q3 => ?_)
      · refine JL_guard rfl rfl q3 ?_
        refine JL_pd rfl (det_fieldAddr rfl fo_96_2) ?_
        refine JL_guard rfl rfl q3 ?_
        refine JL_dt rfl (det_loadK rfl Tryz.isAgg3 rfl) ?_
        refine JL_guard rfl rfl q3 ?_
        refine JL_step rfl rfl rfl (jo_callv rfl rfl Tryz.call74 rfl (In_j _ _ _)) fun _ => ?_
        refine JL_pd rfl (det_pick_t rfl q3 rfl) ?_
        refine JL_pd rfl (det_assign rfl) ?_
        exact hj (by kernel_rfl) (stsub_consB rfl (by clear hj; first | rfl | (simp only [amOk, q2, q3, Bool.and_true, Bool.true_and, Bool.false_and, Bool.and_false, Bool.or_true, Bool.true_or, Bool.or_false, Bool.false_or, Bool.not_true, Bool.not_false]; done) | (simp [amOk, q2, q3]; done) | (simp [amOk] at q2; done) | (simp [amOk] at q3; done) | (simp [amOk, q2, q3] <;> omega) | (exfalso; simp [amOk] at q2 q3; omega) | (simp [q3, amOk] at q2; done) | (simp [q2, amOk] at q3; done)) stsub_nil)
      · refine JL_skip rfl rfl q3 rfl ?_
        refine JL_skip rfl rfl q3 rfl ?_
        refine JL_skip rfl rfl q3 rfl ?_
        refine JL_pd rfl (det_pick_f rfl q3 rfl) ?_
        refine JL_pd rfl (det_assign rfl) ?_
        exact hj (by kernel_rfl) (stsub_consB rfl (by clear hj; first | rfl | (simp only [amOk, q2, q3, Bool.and_true, Bool.true_and, Bool.false_and, Bool.and_false, Bool.or_true, Bool.true_or, Bool.or_false, Bool.false_or, Bool.not_true, Bool.not_false]; done) | (simp [amOk, q2, q3]; done) | (simp [amOk] at q2; done) | (simp [amOk] at q3; done) | (simp [amOk, q2, q3] <;> omega) | (exfalso; simp [amOk] at q2 q3; omega) | (simp [q3, amOk] at q2; done) | (simp [q2, amOk] at q3; done)) stsub_nil)
    · refine JL_skip rfl rfl q2 rfl ?_
      refine JL_skip rfl rfl q2 rfl ?_
      refine JL_skip rfl rfl q2 rfl ?_
      refine JL_pd rfl (det_pick_f rfl q2 rfl) ?_
      refine JL_pd rfl (det_move rfl) ?_
      refine JL_skip rfl rfl rfl rfl ?_
      refine JL_skip rfl rfl rfl rfl ?_
      refine JL_skip rfl rfl rfl rfl ?_
      refine JL_pd rfl (det_pick_f rfl rfl rfl) ?_
      refine JL_pd rfl (det_assign rfl) ?_
      exact hj (by kernel_rfl) (stsub_consB rfl (by clear hj; first | rfl | (simp only [amOk, q2, Bool.and_true, Bool.true_and, Bool.false_and, Bool.and_false, Bool.or_true, Bool.true_or, Bool.or_false, Bool.false_or, Bool.not_true, Bool.not_false]; done) | (simp [amOk, q2]; done) | (simp [amOk] at q2; done) | (simp [amOk, q2] <;> omega) | (exfalso; simp [amOk] at q2; omega)) stsub_nil)
  refine JL_nil ?_
  refine JE_seq ?_
  refine JC_ret ?_
  -- stop: out
  refine JE_out (.inl rfl) () (results1 Tryz.results75 (res_tmp rfl)) rfl (List.Perm.refl _) (fun _ _ => trivial)
/-- The error of messages, but for what contradicts itself. -/
def mfE (l : List Ms) : Int := if 30 < l.length then 3 else if l.all msOk = false then 1 else 0
end Go.Proofs.YthpkgabckklojaaGreat.Bl

/- The statements about bill: tariffs and messages that came in. -/
namespace Go.Proofs.YthpkgabckklojaaGreat.Bl
open Go.ChangeShapes Go.WideShapes Go.ChangeAt Go.RowKit Go.Deep Go.Joins

section
variable {P : Program} {t : TypeId} {α β γ δ : Type} {e0 : α → List Value} {e1 : β → List Value} {e2 : γ → List Value} {e3 : δ → List Value}
theorem opens_struct4 {f0 f1 f2 f3 : Field} (ht : P.underlying t = some (.struct #[f0, f1, f2, f3])) (h0 : OpensTo P f0.type e0) (h1 : OpensTo P f1.type e1) (h2 : OpensTo P f2.type e2) (h3 : OpensTo P f3.type e3) (o0 : f0.offset = 0) (o1 : f1.offset = P.cellsOf f0.type) (o2 : f2.offset = P.cellsOf f0.type + P.cellsOf f1.type) (o3 : f3.offset = P.cellsOf f0.type + P.cellsOf f1.type + P.cellsOf f2.type) (hc : P.cellsOf t = P.cellsOf f0.type + P.cellsOf f1.type + P.cellsOf f2.type + P.cellsOf f3.type) :
    OpensTo P t (fun p : α × β × γ × δ => e0 p.1 ++ (e1 p.2.1 ++ (e2 p.2.2.1 ++ e3 p.2.2.2))) := fun H enc w base sp hd n cs y hy => by
  obtain ⟨xs, m, _, _, hl, hlen, hf⟩ := DataW.trod_struct ht hy
  match xs, hlen with
  | [y0, y1, y2, y3], _ =>
  obtain ⟨a, ha⟩ := h0 _ _ _ _ _ _ _ _ _ (show _ = some y0 by simpa using hf 0 f0 rfl)
  obtain ⟨b, hb⟩ := h1 _ _ _ _ _ _ _ _ _ (show _ = some y1 by simpa using hf 1 f1 rfl)
  obtain ⟨c, hc2⟩ := h2 _ _ _ _ _ _ _ _ _ (show _ = some y2 by simpa using hf 2 f2 rfl)
  obtain ⟨d, hd2⟩ := h3 _ _ _ _ _ _ _ _ _ (show _ = some y3 by simpa using hf 3 f3 rfl)
  refine ⟨(a, b, c, d), ?_⟩
  rw [o0, List.drop_zero] at ha
  rw [o1] at hb
  rw [o2] at hc2
  rw [o3, List.take_of_length_le (by rw [List.length_drop, hl, hc]; omega)] at hd2
  show cs = e0 a ++ (e1 b ++ (e2 c ++ e3 d))
  rw [← ha, ← hb, ← hc2, ← hd2, ← List.drop_drop (i := P.cellsOf f2.type), ← List.drop_drop (i := P.cellsOf f1.type) (j := P.cellsOf f0.type), List.take_append_drop, List.take_append_drop, List.take_append_drop]
end
theorem opensI : OpensTo Tryz.prog 3 encI := (opens_int Tryz.underlying3).to id fun _ => rfl
theorem opensRg : OpensTo Tryz.prog 160 (fun p : Int × Int => [I p.1, I p.2]) :=
  (opens_struct2 Tryz.underlying160 opensI opensI rfl (by kernel_rfl) (by kernel_rfl)).to (fun p => (p.1, p.2)) fun _ => rfl
theorem opensAm : OpensTo Tryz.prog 96 (fun x : Am => [I x.g, I x.q, I x.s]) :=
  (opens_struct3 Tryz.underlying96 opensI opensI opensI rfl (by kernel_rfl) (by kernel_rfl) (by kernel_rfl)).to (fun p => ⟨p.1, p.2.1, p.2.2⟩) fun _ => rfl
theorem opensOf : OpensTo Tryz.prog 162 encO :=
  (opens_struct4 Tryz.underlying162 opensI opensAm opensRg opensI rfl (by kernel_rfl) (by kernel_rfl) (by kernel_rfl) (by kernel_rfl)).to (fun p => ⟨p.1, p.2.1, p.2.2.1.1, p.2.2.1.2, p.2.2.2⟩) fun _ => rfl
abbrev Wf16 := { m : Int // (Lit.int .u16 m).wf = true }
def encWf (n : Wf16) : List Value := [.int .u16 n.1]
instance : Rec encWf 1 := ⟨fun _ => rfl, by decide⟩
def encU (n : Int) : List Value := [.int .u16 n]
instance : Rec encU 1 := ⟨fun _ => rfl, by decide⟩
def wordsOk (ws : List Int) : Prop := ∀ x ∈ ws, 0 ≤ x ∧ x ≤ 65535
theorem opensU : OpensTo Tryz.prog 133 encWf := (opens_wfint Tryz.underlying133).to id fun _ => rfl
set_option maxRecDepth 100000 in
theorem open_words {H : Type} {enc : TypeId × Value → H} {w : World} {r : Reach} {b0 base : Nat} {sp : Nat → Bool} {held : Bool} {v : Value} {d : DataW H} {p : List MemPlace} (hv : Value.okWide Tryz.prog w r b0 32 v) (h : DataW.Trod enc Tryz.prog w base sp held 32 v d p) :
    ∃ (ws : List Int) (a : Option Addr) (c : Nat), v = .slice a ws.length c ∧ wordsOk ws ∧ KSl a ws.length c encU ws w := by
  obtain ⟨a, c, xs, rfl, hk⟩ := open_slicev Tryz.underlying32 opensU (by kernel_rfl) hv h
  refine ⟨xs.map (·.1), a, c, by simp, ?_, ?_⟩
  · intro x hx
    obtain ⟨y, _, rfl⟩ := List.mem_map.1 hx
    have := y.2
    simpa [Lit.wf, IntKind.min, IntKind.max, IntKind.signed, IntKind.bits] using this
  · rw [List.length_map]; exact KSl_map (e := encWf) (e2 := encU) (fun x : Wf16 => x.1) (fun _ => rfl) hk
end Go.Proofs.YthpkgabckklojaaGreat.Bl

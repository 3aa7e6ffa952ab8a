/- The statements about lend: LendEasier (plain). -/
import Derived.Test.YtkmaafnbefpdjaaE36p
set_option linter.unusedSimpArgs false
set_option linter.unusedVariables false
namespace Go.Proofs.Ytkmaafnbefpdjaa
open Go.RowKit Go.Shelf

theorem srvN_ge {k : Nat} {l : List Gr} {q : List Int} (hV : ∀ g ∈ l, VGr g) (hn : q.length = l.length) (hk : ∀ n ∈ q, n < k) (hR : RightZ (l.zip q)) : (served q : Nat) ≤ srvN k l := by
  obtain ⟨p, hp⟩ := serve_exists k l hV
  rw [srvN_of hp]
  have := serve_most hp hn hk hR
  omega
theorem srvN_ex {k : Nat} {l : List Gr} (hV : ∀ g ∈ l, VGr g) : ∃ p, ServeFacts k l p ∧ srvN k l = (served p : Nat) := by
  obtain ⟨p, hp⟩ := serve_exists k l hV
  exact ⟨p, hp, srvN_of hp⟩
theorem srvN_lanes {k k' : Nat} {l : List Gr} (hV : ∀ g ∈ l, VGr g) (h : k ≤ k') : srvN k l ≤ srvN k' l := by
  obtain ⟨p, hp, e⟩ := srvN_ex (k := k) hV
  rw [e]
  exact srvN_ge hV hp.n (fun n hn => by have := hp.lane n hn; omega) hp.right
/-- A group that stays less long. -/
theorem right_less {l : List Gr} {q : List Int} {j : Nat} {g : Gr} (hj : j < l.length) (hn : q.length = l.length) (h1 : g.fr = l[j].fr) (h2 : g.hi ≤ l[j].hi) (hR : RightZ (l.zip q)) : RightZ ((l.set j g).zip q) := by
  unfold RightZ at hR ⊢
  rw [List.pairwise_iff_getElem] at hR ⊢
  intro a b ha hb hab
  rw [List.length_zip, List.length_set] at ha hb
  have h3 := hR a b (by rw [List.length_zip]; exact ha) (by rw [List.length_zip]; exact hb) hab
  simp only [List.getElem_zip, List.getElem_set] at h3 ⊢
  unfold apartP ovl at h3 ⊢
  simp only at h3 ⊢
  intro hc
  refine h3 ⟨hc.1, hc.2.1, ?_⟩
  obtain ⟨_, _, c1, c2⟩ := hc
  by_cases ea : j = a
  · subst ea
    rw [if_pos rfl] at c1 c2
    rw [if_neg (by omega)] at c1 c2
    omega
  · rw [if_neg ea] at c1 c2
    by_cases eb : j = b
    · subst eb
      rw [if_pos rfl] at c1 c2
      omega
    · rw [if_neg eb] at c1 c2
      exact ⟨c1, c2⟩
theorem srvN_short {k : Nat} {l : List Gr} {j : Nat} {g : Gr} (hV : ∀ g ∈ l, VGr g) (hj : j < l.length) (hg : VGr g) (h1 : g.fr = l[j].fr) (h2 : g.hi ≤ l[j].hi) : srvN k l ≤ srvN k (l.set j g) := by
  obtain ⟨p, hp, e⟩ := srvN_ex (k := k) hV
  rw [e]
  refine srvN_ge (fun y hy => ?_) (by rw [List.length_set]; exact hp.n) (fun n hn => (hp.lane n hn).2) (right_less hj hp.n h1 h2 hp.right)
  rcases List.mem_or_eq_of_mem_set hy with hy | rfl
  · exact hV y hy
  · exact hg
theorem less_perm {α : Type} {l : List α} {j : Nat} (hj : j < l.length) : l.Perm (l[j] :: (l.take j ++ l.drop (j + 1))) := by
  conv => lhs; rw [← List.take_append_drop j l, List.drop_eq_getElem_cons hj]
  exact List.perm_middle
theorem srvN_less {k : Nat} {l : List Gr} {j : Nat} (hV : ∀ g ∈ l, VGr g) (hj : j < l.length) : srvN k (l.take j ++ l.drop (j + 1)) ≤ srvN k l ∧ srvN k l - 1 ≤ srvN k (l.take j ++ l.drop (j + 1)) := by
  rw [srvN_perm hV (less_perm hj)]
  have hp := less_perm hj
  generalize l.take j ++ l.drop (j + 1) = r at hp ⊢
  have hVr : ∀ g ∈ l[j] :: r, VGr g := fun g hg => hV g (hp.mem_iff.2 hg)
  have hVs : ∀ g ∈ r, VGr g := fun g hg => hVr g (List.mem_cons_of_mem _ hg)
  generalize l[j] = g at hVr ⊢
  constructor
  · obtain ⟨p, hp, e⟩ := srvN_ex (k := k) hVs
    rw [e]
    have := srvN_ge (k := k) (q := -1 :: p) hVr (by simp [hp.n]) (fun n hn => by rcases List.mem_cons.1 hn with rfl | hn; omega; exact (hp.lane n hn).2) (by
      unfold RightZ
      rw [List.zip_cons_cons, List.pairwise_cons]
      exact ⟨fun z _ hc => by have := hc.1; simp only at this; omega, hp.right⟩)
    simpa [served] using this
  · obtain ⟨p, hp, e⟩ := srvN_ex (k := k) hVr
    rw [e]
    have hn := hp.n
    match p, hp, hn with
    | [], _, hn => simp at hn
    | c :: p, hp, hn =>
      have hr := hp.right
      unfold RightZ at hr
      rw [List.zip_cons_cons, List.pairwise_cons] at hr
      have := srvN_ge (k := k) (q := p) hVs (by simpa using hn) (fun n hn => (hp.lane n (List.mem_cons_of_mem _ hn)).2) hr.2
      have h2 : served (c :: p) ≤ served p + 1 := by
        unfold served
        rw [List.countP_cons]
        split <;> omega
      omega
theorem barN_mono {sh sh' feet feet' : List Int} (h : ∀ S, lack sh' feet' S ≤ lack sh feet S) : barN sh' feet' ≤ barN sh feet := by
  unfold barN
  generalize 1024 = n
  induction n with
  | zero => exact Int.le_refl _
  | succ n ih =>
    unfold lacksV
    have := h (sizesB n)
    omega
theorem barN_shoes {sh sh' feet : List Int} (h : ∀ s : Nat, s < 10 → shoe sh s ≤ shoe sh' s) : barN sh' feet ≤ barN sh feet := barN_mono fun S => by
  unfold lack lackI
  have := sumC_le (c := nbr S) (u := shoe sh) (v := shoe sh') (n := 10) h
  omega
theorem barN_less {sh feet : List Int} (j : Nat) : barN sh (feet.take j ++ feet.drop (j + 1)) ≤ barN sh feet := barN_mono fun S => by
  have hs : (feet.take j ++ feet.drop (j + 1)).Sublist feet := by
    conv => rhs; rw [← List.take_append_drop j feet]
    exact List.Sublist.append_left (List.drop_sublist_drop_left feet (by omega)) _
  have := hs.countP_le (p := fun f => decide (f ∈ S))
  unfold lack lackI
  omega
/-- One lane, and one pair more. -/
def moreH (h : Hs) (s : Nat) : Hs := ⟨min 5 (h.lanes + 1), h.shoes.set s (min 20 (shoe h.shoes s + 1))⟩
theorem moreH_ok {h : Hs} (hV : VHs h) {s : Nat} (hs : s < 10) : VHs (moreH h s) := by
  have h0 := hV.l0
  refine ⟨by unfold moreH; simp only; omega, by unfold moreH; simp only; omega, by unfold moreH; rw [List.length_set]; exact hV.n, fun x hx => ?_⟩
  unfold moreH at hx
  rcases List.mem_or_eq_of_mem_set hx with hx | rfl
  · exact hV.s x hx
  · have := hV.s (h.shoes[s]'(by have := hV.n; omega)) (List.getElem_mem _)
    rw [← shoe_get] at this
    omega
theorem moreH_shoe {h : Hs} (hV : VHs h) {s : Nat} (hs : s < 10) (i : Nat) (hi : i < 10) : shoe h.shoes i ≤ shoe (moreH h s).shoes i := by
  have hn := hV.n
  have := hV.s (h.shoes[i]'(by omega)) (List.getElem_mem _)
  rw [shoe_get (sh := h.shoes) (by omega), shoe_get (by unfold moreH; rw [List.length_set]; omega)]
  unfold moreH
  simp only [List.getElem_set]
  split
  · rename_i e
    subst e
    rw [shoe_get (by omega)]
    omega
  · exact Int.le_refl _
theorem fault_more {h : Hs} {l : List Gr} (hf : fault h l = 0) {s : Nat} (hs : s < 10) : fault (moreH h s) l = 0 := by
  have V := vld_of hf
  exact of_vld ⟨moreH_ok V.hs hs, V.n, V.fw, V.gr⟩
theorem shod_more {h : Hs} {feet : List Int} (hf : shodE h feet = 0) {s : Nat} (hs : s < 10) : shodE (moreH h s) feet = 0 := by
  have V := vfeet_of hf
  exact of_vfeet ⟨moreH_ok V.hs hs, V.n, V.ft⟩
theorem shod_less {h : Hs} {feet : List Int} (hf : shodE h feet = 0) (j : Nat) : shodE h (feet.take j ++ feet.drop (j + 1)) = 0 := by
  have V := vfeet_of hf
  refine of_vfeet ⟨V.hs, ?_, fun f hg => ?_⟩
  · have := V.n
    rw [List.length_append, List.length_take, List.length_drop]; omega
  · rcases List.mem_append.1 hg with hg | hg
    · exact V.ft f (List.mem_of_mem_take hg)
    · exact V.ft f (List.mem_of_mem_drop hg)
theorem fault_less {h : Hs} {l : List Gr} (hf : fault h l = 0) (j : Nat) : fault h (l.take j ++ l.drop (j + 1)) = 0 := by
  have V := vld_of hf
  have hm : ∀ g ∈ l.take j ++ l.drop (j + 1), g ∈ l := fun g hg => by
    rcases List.mem_append.1 hg with hg | hg
    · exact List.mem_of_mem_take hg
    · exact List.mem_of_mem_drop hg
  refine of_vld ⟨V.hs, ?_, fun g hg => V.fw g (hm g hg), fun g hg => V.gr g (hm g hg)⟩
  have := V.n
  rw [List.length_append, List.length_take, List.length_drop]; omega
/-- A group whose hours end earlier. -/
def shortG (g : Gr) (d : Int) : Gr := ⟨g.fr, max g.fr (g.lo - d), max g.fr (g.hi - d), g.feet⟩
theorem shortG_ok {g : Gr} (hg : VGr g) {d : Int} (hd : 0 ≤ d) : VGr (shortG g d) := by
  have := hg.f0; have := hg.fl; have := hg.lh; have := hg.h1
  exact ⟨by unfold shortG; simp only; omega, by unfold shortG; simp only; omega, by unfold shortG; simp only; omega, by unfold shortG; simp only; omega, hg.ft⟩
theorem fault_short {h : Hs} {l : List Gr} (hf : fault h l = 0) {j : Nat} (hj : j < l.length) {d : Int} (hd : 0 ≤ d) : fault h (l.set j (shortG l[j] d)) = 0 := by
  have V := vld_of hf
  refine of_vld ⟨V.hs, by rw [List.length_set]; exact V.n, fun g hg => ?_, fun g hg => ?_⟩
  · rcases List.mem_or_eq_of_mem_set hg with hg | rfl
    · exact V.fw g hg
    · exact V.fw l[j] (List.getElem_mem hj)
  · rcases List.mem_or_eq_of_mem_set hg with hg | rfl
    · exact V.gr g hg
    · exact shortG_ok (V.gr _ (List.getElem_mem hj)) hd
end Go.Proofs.Ytkmaafnbefpdjaa

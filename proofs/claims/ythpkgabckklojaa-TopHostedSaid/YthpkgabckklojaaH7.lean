/- Own texts, laid together: E1 E2 E3 E4. Nothing is asked. -/
import Derived.Test.YthpkgabckklojaaH3
set_option linter.unusedSimpArgs false
set_option linter.unusedVariables false
/- Plain words for lend: houses, groups, plans, marks; by marks no right plan serves more than their bound, and the greedy plan serves as many as some marks' bound. Nothing is asked. -/
namespace Go.Proofs.Ythpkgabckklojaa.En
open Go.RowKit Go.Shelf

structure Gr where
  fr : Int
  lo : Int
  hi : Int
  feet : List Int
deriving DecidableEq
instance : Inhabited Gr := ⟨⟨0, 0, 0, []⟩⟩
structure Hs where
  lanes : Int
  shoes : List Int
def encI (n : Int) : List Value := [I n]
instance : Rec encI 1 := ⟨fun _ => rfl, by decide⟩
def inI (n lo hi : Int) : Bool := decide (lo ≤ n ∧ n ≤ hi)
def hsOk (h : Hs) : Bool := inI h.lanes 0 5 && (decide (h.shoes.length = 10) && h.shoes.all fun n => inI n 0 20)
def grOk (g : Gr) : Bool := inI g.fr 0 30 && (decide (g.fr ≤ g.lo) && (decide (g.lo ≤ g.hi) && (inI g.hi 0 30 && g.feet.all fun n => inI n 0 9)))
def few (g : Gr) : Bool := decide (g.feet.length ≤ 6)
def fault (h : Hs) (l : List Gr) : Int := if hsOk h = false then 1 else if 8 < l.length ∨ l.all few = false then 3 else if l.all grOk = false then 1 else 0
structure VHs (h : Hs) : Prop where
  l0 : 0 ≤ h.lanes
  l1 : h.lanes ≤ 5
  n : h.shoes.length = 10
  s : ∀ x ∈ h.shoes, 0 ≤ x ∧ x ≤ 20
structure VGr (g : Gr) : Prop where
  f0 : 0 ≤ g.fr
  fl : g.fr ≤ g.lo
  lh : g.lo ≤ g.hi
  h1 : g.hi ≤ 30
  ft : ∀ x ∈ g.feet, 0 ≤ x ∧ x ≤ 9
theorem inI_iff {n lo hi : Int} : inI n lo hi = true ↔ lo ≤ n ∧ n ≤ hi := by simp [inI]
theorem hsOk_iff {h : Hs} : hsOk h = true ↔ VHs h := by
  constructor
  · intro q
    simp only [hsOk, Bool.and_eq_true, inI_iff, decide_eq_true_eq, List.all_eq_true] at q
    exact ⟨q.1.1, q.1.2, q.2.1, q.2.2⟩
  · intro q
    simp only [hsOk, Bool.and_eq_true, inI_iff, decide_eq_true_eq, List.all_eq_true]
    exact ⟨⟨q.l0, q.l1⟩, q.n, q.s⟩
theorem grOk_iff {g : Gr} : grOk g = true ↔ VGr g := by
  constructor
  · intro q
    simp only [grOk, Bool.and_eq_true, inI_iff, decide_eq_true_eq, List.all_eq_true] at q
    exact ⟨q.1.1, q.2.1, q.2.2.1, q.2.2.2.1.2, q.2.2.2.2⟩
  · intro q
    have := q.f0; have := q.fl; have := q.lh; have := q.h1
    simp only [grOk, Bool.and_eq_true, inI_iff, decide_eq_true_eq, List.all_eq_true]
    exact ⟨⟨by omega, by omega⟩, q.fl, q.lh, ⟨by omega, q.h1⟩, q.ft⟩
structure Vld (h : Hs) (l : List Gr) : Prop where
  hs : VHs h
  n : l.length ≤ 8
  fw : ∀ g ∈ l, g.feet.length ≤ 6
  gr : ∀ g ∈ l, VGr g
theorem vld_of {h : Hs} {l : List Gr} (q : fault h l = 0) : Vld h l := by
  unfold fault at q
  split at q
  · omega
  · split at q
    · omega
    · split at q
      · omega
      · rename_i h1 h2 h3
        simp only [Bool.not_eq_false, not_or, Nat.not_lt] at h1 h2 h3
        have h2' := List.all_eq_true.1 h2.2
        have h3' := List.all_eq_true.1 h3
        exact ⟨hsOk_iff.1 h1, h2.1, fun g hg => of_decide_eq_true (h2' g hg), fun g hg => grOk_iff.1 (h3' g hg)⟩
theorem of_vld {h : Hs} {l : List Gr} (v : Vld h l) : fault h l = 0 := by
  unfold fault
  have h1 := hsOk_iff.2 v.hs
  have h2 : l.all few = true := List.all_eq_true.2 fun g hg => decide_eq_true (v.fw g hg)
  have h3 : l.all grOk = true := List.all_eq_true.2 fun g hg => grOk_iff.2 (v.gr g hg)
  have := v.n
  rw [h1, h2, h3]; simp; omega

/-- Is an hour one of a group's longest? -/
def stays (g : Gr) (t : Int) : Bool := inI t g.fr g.hi
def ovl (a b : Gr) : Prop := a.fr ≤ b.hi ∧ b.fr ≤ a.hi
instance (a b : Gr) : Decidable (ovl a b) := inferInstanceAs (Decidable (_ ∧ _))
/-- Two groups with their lanes do not meet. -/
def apartP (a b : Gr × Int) : Prop := ¬ (0 ≤ a.2 ∧ a.2 = b.2 ∧ ovl a.1 b.1)
instance (a b : Gr × Int) : Decidable (apartP a b) := inferInstanceAs (Decidable (¬ _))
theorem apartP_symm {a b : Gr × Int} (h : apartP a b) : apartP b a := fun ⟨h1, h2, h3, h4⟩ => h ⟨by omega, h2.symm, h4, h3⟩
def RightZ (zs : List (Gr × Int)) : Prop := zs.Pairwise apartP
instance (zs : List (Gr × Int)) : Decidable (RightZ zs) := inferInstanceAs (Decidable (List.Pairwise _ _))
def srv (z : Gr × Int) : Bool := decide (0 ≤ z.2)
def hit (T : List Int) (g : Gr) : Bool := T.any fun t => stays g t
/-- The bound of marks. -/
def boundL (k : Nat) (l : List Gr) (T : List Int) : Nat := k * T.length + l.countP fun g => !hit T g

theorem countP_le_len {α : Type} (l : List α) (p : α → Bool) (f : α → Int) (k : Nat) (hr : l.Pairwise fun a b => p a = true → p b = true → f a ≠ f b) (h : ∀ x ∈ l, p x = true → 0 ≤ f x ∧ f x < k) : l.countP p ≤ k := by
  have h1 : ((l.filter p).map f).Nodup := by
    rw [List.Nodup, List.pairwise_map]
    exact List.pairwise_filter.2 hr
  have h2 : ∀ x ∈ (l.filter p).map f, x ∈ (List.range k).map fun n : Nat => (n : Int) := by
    intro x hx
    obtain ⟨a, ha, rfl⟩ := List.mem_map.1 hx
    obtain ⟨ha, hp⟩ := List.mem_filter.1 ha
    have := h a ha hp
    exact List.mem_map.2 ⟨(f a).toNat, List.mem_range.2 (by omega), by omega⟩
  have := nodup_len h1 h2
  simpa [List.countP_eq_length_filter] using this
theorem countP_or {α : Type} (l : List α) (p q : α → Bool) : l.countP (fun x => p x || q x) ≤ l.countP p + l.countP q := by
  induction l with
  | nil => simp
  | cons a l ih =>
    simp only [List.countP_cons]
    cases p a <;> cases q a <;> simp <;> omega
theorem countP_split {α : Type} (l : List α) (p q : α → Bool) : l.countP p = l.countP (fun x => p x && q x) + l.countP (fun x => p x && !q x) := by
  induction l with
  | nil => simp
  | cons a l ih =>
    simp only [List.countP_cons]
    cases p a <;> cases q a <;> simp <;> omega
theorem countP_or_eq {α : Type} (l : List α) (p q : α → Bool) (h : ∀ x ∈ l, p x = true → q x = true → False) : l.countP (fun x => p x || q x) = l.countP p + l.countP q := by
  induction l with
  | nil => simp
  | cons a l ih =>
    have ih := ih fun x hx => h x (by simp [hx])
    have ha := h a (by simp)
    simp only [List.countP_cons]
    cases hp : p a <;> cases hq : q a
    · simp; omega
    · simp; omega
    · simp; omega
    · exact (ha hp hq).elim
theorem countP_map' {α β : Type} (l : List α) (f : α → β) (p : β → Bool) : (l.map f).countP p = l.countP fun x => p (f x) := by
  rw [List.countP_map]; rfl
def hitZ (T : List Int) (z : Gr × Int) : Bool := srv z && hit T z.1
theorem hitZ_cons (t : Int) (T : List Int) (z : Gr × Int) : hitZ (t :: T) z = ((srv z && stays z.1 t) || hitZ T z) := by
  unfold hitZ hit
  rw [List.any_cons]
  cases srv z <;> simp
theorem at_most {k : Nat} {zs : List (Gr × Int)} (hR : RightZ zs) (hk : ∀ z ∈ zs, z.2 < k) (t : Int) : zs.countP (fun z => srv z && stays z.1 t) ≤ k := by
  refine countP_le_len zs _ (·.2) k (List.Pairwise.imp (R := apartP) ?_ hR) ?_
  · intro a b h ha hb e
    simp only [Bool.and_eq_true, srv, stays, inI, decide_eq_true_eq] at ha hb
    exact h ⟨ha.1, e, by unfold ovl; omega⟩
  · intro z hz h
    simp only [Bool.and_eq_true, srv, decide_eq_true_eq] at h
    exact ⟨h.1, hk z hz⟩
theorem hit_le {k : Nat} {zs : List (Gr × Int)} (hR : RightZ zs) (hk : ∀ z ∈ zs, z.2 < k) : ∀ T : List Int, zs.countP (hitZ T) ≤ k * T.length
  | [] => by simp [hitZ, hit]
  | t :: T => by
    have h1 := hit_le hR hk T
    have h2 := at_most hR hk t
    have h3 := countP_or zs (fun z => srv z && stays z.1 t) (hitZ T)
    rw [show hitZ (t :: T) = fun z => (srv z && stays z.1 t) || hitZ T z from funext (hitZ_cons t T), List.length_cons, Nat.mul_succ]
    omega
/-- No right plan serves more than the bound of any marks. -/
theorem weak_dual {k : Nat} {zs : List (Gr × Int)} (hR : RightZ zs) (hk : ∀ z ∈ zs, z.2 < k) (T : List Int) : zs.countP srv ≤ boundL k (zs.map (·.1)) T := by
  have h1 := hit_le hR hk T
  have h2 := countP_split zs srv fun z => hit T z.1
  have h3 : zs.countP (fun z => srv z && !hit T z.1) ≤ (zs.map (·.1)).countP fun g => !hit T g := by
    rw [countP_map']
    exact List.countP_mono_left fun z _ h => by simp only [Bool.and_eq_true] at h; exact h.2
  unfold boundL
  have h4 : zs.countP (hitZ T) = zs.countP fun z => srv z && hit T z.1 := rfl
  omega

/-- The lane that has been free for the shortest time, of the first ones. -/
def pick (ends : List Int) (fr : Int) : Nat → Int
  | 0 => -1
  | n + 1 => if ends.getD n 0 < fr ∧ (pick ends fr n = -1 ∨ ends.getD (pick ends fr n).toNat 0 < ends.getD n 0) then (n : Int) else pick ends fr n
theorem pick_spec (ends : List Int) (fr : Int) : ∀ n, n ≤ ends.length → (pick ends fr n = -1 ∧ ∀ j, j < n → fr ≤ ends.getD j 0) ∨ ∃ b : Nat, b < n ∧ pick ends fr n = (b : Int) ∧ ends.getD b 0 < fr ∧ ∀ j, j < n → ends.getD j 0 < fr → ends.getD j 0 ≤ ends.getD b 0
  | 0, _ => .inl ⟨rfl, fun j h => by omega⟩
  | n + 1, hn => by
    unfold pick
    rcases pick_spec ends fr n (by omega) with ⟨h1, h2⟩ | ⟨b, hb, h1, h2, h3⟩
    · by_cases h : ends.getD n 0 < fr
      · rw [if_pos ⟨h, .inl h1⟩]
        refine .inr ⟨n, by omega, rfl, h, fun j hj hlt => ?_⟩
        by_cases e : j = n
        · subst e; exact Int.le_refl _
        · have := h2 j (by omega); omega
      · rw [if_neg fun q => h q.1]
        refine .inl ⟨h1, fun j hj => ?_⟩
        by_cases e : j = n
        · subst e; omega
        · exact h2 j (by omega)
    · rw [h1, Int.toNat_natCast]
      by_cases h : ends.getD n 0 < fr ∧ ((b : Int) = -1 ∨ ends.getD b 0 < ends.getD n 0)
      · rw [if_pos h]
        refine .inr ⟨n, by omega, rfl, h.1, fun j hj hlt => ?_⟩
        by_cases e : j = n
        · subst e; exact Int.le_refl _
        · have := h3 j (by omega) hlt; have := h.2.resolve_left (by omega); omega
      · rw [if_neg h]
        refine .inr ⟨b, by omega, rfl, h2, fun j hj hlt => ?_⟩
        by_cases e : j = n
        · subst e
          by_cases h5 : ends.getD b 0 < ends.getD j 0
          · exact absurd ⟨hlt, .inr h5⟩ h
          · omega
        · exact h3 j (by omega) hlt
def ends' (ends : List Int) (g : Gr) : List Int := if pick ends g.fr ends.length = -1 then ends else ends.set (pick ends g.fr ends.length).toNat g.hi
/-- The lanes that the groups get, one after the other. -/
def gre : List Int → List Gr → List Int
  | _, [] => []
  | ends, g :: L => pick ends g.fr ends.length :: gre (ends' ends g) L
theorem gre_len : ∀ (L : List Gr) (ends : List Int), (gre ends L).length = L.length
  | [], _ => rfl
  | g :: L, ends => by rw [gre, List.length_cons, List.length_cons, gre_len L]
theorem ends'_len (ends : List Int) (g : Gr) : (ends' ends g).length = ends.length := by unfold ends'; split <;> simp
theorem zip_grd (ends : List Int) (g : Gr) (L : List Gr) : (g :: L).zip (gre ends (g :: L)) = (g, pick ends g.fr ends.length) :: L.zip (gre (ends' ends g) L) := rfl
theorem getD_set (l : List Int) (b : Nat) (x : Int) (j : Nat) (hb : b < l.length) : (l.set b x).getD j 0 = if j = b then x else l.getD j 0 := by
  rw [List.getD_eq_getElem?_getD, List.getElem?_set, List.getD_eq_getElem?_getD]
  by_cases e : b = j
  · subst e; rw [if_pos rfl, if_pos rfl, if_pos hb]; rfl
  · rw [if_neg e, if_neg (fun h => e h.symm)]
theorem mem_getD {l : List Int} {x : Int} : x ∈ l ↔ ∃ j, j < l.length ∧ l.getD j 0 = x := by
  rw [List.mem_iff_getElem]
  constructor
  · rintro ⟨j, hj, e⟩; exact ⟨j, hj, by rw [List.getD_eq_getElem?_getD, List.getElem?_eq_getElem hj]; exact e⟩
  · rintro ⟨j, hj, e⟩; exact ⟨j, hj, by rw [List.getD_eq_getElem?_getD, List.getElem?_eq_getElem hj] at e; exact e⟩
/-- The greedy plan gives lanes that there are, and is right. -/
theorem gre_lane : ∀ (L : List Gr) (ends : List Int), ∀ z ∈ L.zip (gre ends L), -1 ≤ z.2 ∧ z.2 < ends.length
  | [], _, z, hz => by cases hz
  | g :: L, ends, z, hz => by
    rw [zip_grd] at hz
    rcases List.mem_cons.1 hz with rfl | hz
    · rcases pick_spec ends g.fr ends.length (Nat.le_refl _) with ⟨h, _⟩ | ⟨b, hb, h, _⟩ <;> simp only [h] <;> omega
    · have := gre_lane L (ends' ends g) z hz
      rwa [ends'_len] at this
theorem gre_ahead : ∀ (L : List Gr) (ends : List Int), (∀ g ∈ L, g.fr ≤ g.hi) → ∀ z ∈ L.zip (gre ends L), 0 ≤ z.2 → ends.getD z.2.toNat 0 < z.1.fr
  | [], _, _, z, hz, _ => by cases hz
  | g :: L, ends, hg, z, hz, h0 => by
    rw [zip_grd] at hz
    rcases List.mem_cons.1 hz with rfl | hz
    · rcases pick_spec ends g.fr ends.length (Nat.le_refl _) with ⟨h, _⟩ | ⟨b, hb, h, h1, _⟩
      · simp only [h] at h0; omega
      · simp only [h, Int.toNat_natCast]; exact h1
    · have h2 := gre_ahead L (ends' ends g) (fun x hx => hg x (by simp [hx])) z hz h0
      unfold ends' at h2
      split at h2
      · exact h2
      · rename_i hne
        rcases pick_spec ends g.fr ends.length (Nat.le_refl _) with ⟨h, _⟩ | ⟨b, hb, h, h1, _⟩
        · exact absurd h hne
        · rw [h, Int.toNat_natCast, getD_set _ _ _ _ hb] at h2
          split at h2
          · rename_i e; rw [e]; have := hg g (by simp); omega
          · exact h2
theorem gre_right : ∀ (L : List Gr) (ends : List Int), (∀ g ∈ L, g.fr ≤ g.hi) → RightZ (L.zip (gre ends L))
  | [], _, _ => List.Pairwise.nil
  | g :: L, ends, hg => by
    rw [zip_grd]
    refine List.pairwise_cons.2 ⟨fun z hz => ?_, gre_right L (ends' ends g) fun x hx => hg x (by simp [hx])⟩
    rintro ⟨h0, he, ho⟩
    simp only at h0 he
    have h2 := gre_ahead L (ends' ends g) (fun x hx => hg x (by simp [hx])) z hz (by omega)
    rcases pick_spec ends g.fr ends.length (Nat.le_refl _) with ⟨h, _⟩ | ⟨b, hb, h, h1, _⟩
    · omega
    · have hne : ¬ pick ends g.fr ends.length = -1 := by omega
      rw [← he, h, Int.toNat_natCast, ends', if_neg hne, h, Int.toNat_natCast, getD_set _ _ _ _ hb, if_pos rfl] at h2
      have := ho.2
      simp only at this
      omega

/-- The least of some numbers. -/
def mn (d : Int) : List Int → Int
  | [] => d
  | e :: r => if e < mn d r then e else mn d r
theorem mn_le (d : Int) : ∀ l, mn d l ≤ d ∧ ∀ e ∈ l, mn d l ≤ e
  | [] => ⟨Int.le_refl _, fun _ h => by cases h⟩
  | e :: r => by
    obtain ⟨h1, h2⟩ := mn_le d r
    unfold mn
    split
    · exact ⟨by omega, fun x hx => by rcases List.mem_cons.1 hx with rfl | hx; exact Int.le_refl _; have := h2 x hx; omega⟩
    · exact ⟨h1, fun x hx => by rcases List.mem_cons.1 hx with rfl | hx; omega; exact h2 x hx⟩
theorem mn_mem (d : Int) : ∀ l, mn d l = d ∨ mn d l ∈ l
  | [] => .inl rfl
  | e :: r => by
    unfold mn
    split
    · exact .inr (by simp)
    · rcases mn_mem d r with h | h
      · exact .inl h
      · exact .inr (List.mem_cons_of_mem _ h)
theorem le_mn {d x : Int} : ∀ {l : List Int}, x ≤ d → (∀ e ∈ l, x ≤ e) → x ≤ mn d l
  | [], h, _ => h
  | e :: r, h, h2 => by
    have := le_mn h fun e he => h2 e (List.mem_cons_of_mem _ he)
    have := h2 e (by simp)
    unfold mn; split <;> omega
/-- What the served groups so far have to do with when the lanes are free. -/
structure Hist (S : List (Gr × Int)) (ends : List Int) : Prop where
  cov : ∀ i j, i < ends.length → j < ends.length → 0 ≤ ends.getD i 0 → ends.getD i 0 ≤ ends.getD j 0 → ∃ z ∈ S, z.2 = (j : Int) ∧ stays z.1 (ends.getD i 0) = true
theorem Hist.step {S : List (Gr × Int)} {ends : List Int} (h : Hist S ends) {g : Gr} (h0 : 0 ≤ g.fr) (h1 : g.fr ≤ g.hi) (hle : ∀ e ∈ ends, e ≤ g.hi) (hne : ¬ pick ends g.fr ends.length = -1) :
    Hist ((g, pick ends g.fr ends.length) :: S) (ends' ends g) := by
  rcases pick_spec ends g.fr ends.length (Nat.le_refl _) with ⟨q, _⟩ | ⟨b, hb, q, q1, q2⟩
  · exact absurd q hne
  unfold ends'
  rw [if_neg hne, q, Int.toNat_natCast]
  have hlee : ∀ j, j < ends.length → ends.getD j 0 ≤ g.hi := fun j hj => hle _ (mem_getD.2 ⟨j, hj, rfl⟩)
  constructor
  intro i j hi hj
  rw [List.length_set] at hi hj
  rw [getD_set _ _ _ _ hb, getD_set _ _ _ _ hb]
  by_cases ei : i = b
  · subst ei
    rw [if_pos rfl]
    by_cases ej : j = i
    · subst ej
      intro _ _
      exact ⟨_, List.mem_cons_self .., rfl, inI_iff.2 ⟨h1, Int.le_refl _⟩⟩
    · rw [if_neg ej]
      intro a1 a2
      have := hlee j hj
      have e : ends.getD j 0 = g.hi := by omega
      obtain ⟨z, hz, z1, z2⟩ := h.cov j j hj hj (by omega) (Int.le_refl _)
      exact ⟨z, List.mem_cons_of_mem _ hz, z1, by rw [← e]; exact z2⟩
  · rw [if_neg ei]
    by_cases ej : j = b
    · subst ej
      rw [if_pos rfl]
      intro a1 a2
      by_cases hf : g.fr ≤ ends.getD i 0
      · exact ⟨_, List.mem_cons_self .., rfl, inI_iff.2 ⟨hf, a2⟩⟩
      · obtain ⟨z, hz, z1, z2⟩ := h.cov i j hi hj a1 (q2 i hi (by omega))
        exact ⟨z, List.mem_cons_of_mem _ hz, z1, z2⟩
    · rw [if_neg ej]
      intro a1 a2
      obtain ⟨z, hz, z1, z2⟩ := h.cov i j hi hj a1 a2
      exact ⟨z, List.mem_cons_of_mem _ hz, z1, z2⟩
/-- Marks that prove the greedy plan. -/
structure Tight (k : Nat) (S zs : List (Gr × Int)) (T : List Int) : Prop where
  up : T.Pairwise (· < ·)
  cov : ∀ t ∈ T, ∀ j : Nat, j < k → ∃ z ∈ S ++ zs, z.2 = (j : Int) ∧ stays z.1 t = true
  hit : ∀ z ∈ zs, srv z = false → hit T z.1 = true
  one : ∀ z ∈ S ++ zs, srv z = true → ∀ t ∈ T, ∀ t' ∈ T, stays z.1 t = true → stays z.1 t' = true → t = t'
theorem tight : ∀ (L : List Gr) (ends : List Int) (S : List (Gr × Int)), Hist S ends → L.Pairwise (fun a b => a.hi ≤ b.hi) → (∀ g ∈ L, 0 ≤ g.fr ∧ g.fr ≤ g.hi ∧ g.hi ≤ 30) → (∀ e ∈ ends, ∀ g ∈ L, e ≤ g.hi) → (∀ z ∈ S, ∀ g ∈ L, z.1.hi ≤ g.hi) →
    ∃ T : List Int, Tight ends.length S (L.zip (gre ends L)) T ∧ (∀ t ∈ T, 0 ≤ t ∧ t ≤ 30) ∧ (∀ t ∈ T, ∀ x, (∀ e ∈ ends, x ≤ e) → (∀ g ∈ L, x ≤ g.hi) → x ≤ t) ∧ ∀ z ∈ L.zip (gre ends L), srv z = true → ∀ x, (∀ e ∈ ends, x ≤ e) → x < z.1.fr
  | [], ends, S, _, _, _, _, _ => ⟨[], ⟨List.Pairwise.nil, (by simp), (by simp), (by simp)⟩, (by simp), (by simp), (by simp)⟩
  | g :: L, ends, S, hH, hS, hV, hE, hZ => by
    obtain ⟨g0, g1, g2⟩ := hV g (by simp)
    have hS2 := List.pairwise_cons.1 hS
    have hle : ∀ e ∈ ends, e ≤ g.hi := fun e he => hE e he g (by simp)
    rw [zip_grd]
    rcases pick_spec ends g.fr ends.length (Nat.le_refl _) with ⟨q, q1⟩ | ⟨b, hb, q, q1, q2⟩
    · -- the group gets no lane
      have he : ends' ends g = ends := by unfold ends'; rw [if_pos q]
      rw [he, q]
      obtain ⟨T, t1, t2, t3, t4⟩ := tight L ends S hH hS2.2 (fun x hx => hV x (by simp [hx])) (fun e he x hx => hE e he x (by simp [hx])) (fun z hz x hx => hZ z hz x (by simp [hx]))
      have hfe : ∀ e ∈ ends, g.fr ≤ e := fun e he => by obtain ⟨j, hj, rfl⟩ := mem_getD.1 he; exact q1 j hj
      have hmem : ∀ z ∈ S ++ (g, (-1 : Int)) :: L.zip (gre ends L), srv z = true → z ∈ S ++ L.zip (gre ends L) := fun z hz hs => by
        rcases List.mem_append.1 hz with hz | hz
        · exact List.mem_append.2 (.inl hz)
        · rcases List.mem_cons.1 hz with rfl | hz
          · exact absurd hs (by simp [srv])
          · exact List.mem_append.2 (.inr hz)
      have hsub : ∀ z ∈ S ++ L.zip (gre ends L), z ∈ S ++ (g, (-1 : Int)) :: L.zip (gre ends L) := fun z hz => by
        rcases List.mem_append.1 hz with hz | hz
        · exact List.mem_append.2 (.inl hz)
        · exact List.mem_append.2 (.inr (List.mem_cons_of_mem _ hz))
      have h4 : ∀ z ∈ (g, (-1 : Int)) :: L.zip (gre ends L), srv z = true → ∀ x, (∀ e ∈ ends, x ≤ e) → x < z.1.fr := fun z hz hs => by
        rcases List.mem_cons.1 hz with rfl | hz
        · exact absurd hs (by simp [srv])
        · exact t4 z hz hs
      cases hh : hit T g with
      | true =>
        refine ⟨T, ⟨t1.up, fun t ht j hj => ?_, fun z hz hs => ?_, fun z hz hs => t1.one z (hmem z hz hs) hs⟩, t2, fun t ht x h1 h2 => t3 t ht x h1 fun y hy => h2 y (by simp [hy]), h4⟩
        · obtain ⟨z, hz, z1, z2⟩ := t1.cov t ht j hj
          exact ⟨z, hsub z hz, z1, z2⟩
        · rcases List.mem_cons.1 hz with rfl | hz
          · exact hh
          · exact t1.hit z hz hs
      | false =>
        obtain ⟨m1, m2⟩ := mn_le g.hi ends
        have m3 : g.fr ≤ mn g.hi ends := le_mn g1 hfe
        have hx : ∀ t ∈ T, mn g.hi ends ≤ t := fun t ht => t3 t ht _ m2 fun y hy => by have := hS2.1 y hy; omega
        have hgt : ∀ t ∈ T, g.hi < t := fun t ht => by
          have h1 := hx t ht
          have h2 : stays g t = false := by
            have := List.any_eq_false.1 hh t ht
            simpa using this
          simp only [stays, inI, decide_eq_false_iff_not] at h2
          omega
        refine ⟨mn g.hi ends :: T, ⟨List.pairwise_cons.2 ⟨fun t ht => by have := hgt t ht; omega, t1.up⟩, fun t ht j hj => ?_, fun z hz hs => ?_, ?_⟩, ?_, ?_, h4⟩
        · rcases List.mem_cons.1 ht with rfl | ht
          · have hin : mn g.hi ends ∈ ends := by
              rcases mn_mem g.hi ends with h | h
              · have h5 : ends.getD j 0 ∈ ends := mem_getD.2 ⟨j, hj, rfl⟩
                have := m2 _ h5; have := hle _ h5
                rw [h, show g.hi = ends.getD j 0 by omega]; exact h5
              · exact h
            obtain ⟨i, hi, ei⟩ := mem_getD.1 hin
            have hj2 : ends.getD i 0 ≤ ends.getD j 0 := by rw [ei]; exact m2 _ (mem_getD.2 ⟨j, hj, rfl⟩)
            obtain ⟨z, hz, z1, z2⟩ := hH.cov i j hi hj (by rw [ei]; omega) hj2
            exact ⟨z, List.mem_append.2 (.inl hz), z1, by rw [← ei]; exact z2⟩
          · obtain ⟨z, hz, z1, z2⟩ := t1.cov t ht j hj
            exact ⟨z, hsub z hz, z1, z2⟩
        · rcases List.mem_cons.1 hz with rfl | hz
          · show hit (mn g.hi ends :: T) g = true
            unfold hit
            rw [List.any_cons, show stays g (mn g.hi ends) = true from inI_iff.2 ⟨m3, m1⟩]; rfl
          · have := t1.hit z hz hs
            unfold hit at this ⊢
            rw [List.any_cons, this, Bool.or_true]
        · have hno : ∀ z ∈ S ++ L.zip (gre ends L), srv z = true → ∀ t ∈ T, stays z.1 (mn g.hi ends) = true → stays z.1 t = true → False := fun z hz hs t ht s1 s2 => by
            have s1 := inI_iff.1 s1
            have s2 := inI_iff.1 s2
            have := hgt t ht
            rcases List.mem_append.1 hz with hz | hz
            · have := hZ z hz g (by simp); omega
            · have := t4 z hz hs _ m2; omega
          intro z hz hs t ht t' ht' s1 s2
          have hz2 := hmem z hz hs
          rcases List.mem_cons.1 ht with e | ht
          · rcases List.mem_cons.1 ht' with e' | ht'
            · rw [e, e']
            · rw [e] at s1; exact (hno z hz2 hs t' ht' s1 s2).elim
          · rcases List.mem_cons.1 ht' with e' | ht'
            · rw [e'] at s2; exact (hno z hz2 hs t ht s2 s1).elim
            · exact t1.one z hz2 hs t ht t' ht' s1 s2
        · intro t ht
          rcases List.mem_cons.1 ht with rfl | ht
          · omega
          · exact t2 t ht
        · intro t ht x h1 h2
          rcases List.mem_cons.1 ht with rfl | ht
          · exact le_mn (h2 g (by simp)) h1
          · exact t3 t ht x h1 fun y hy => h2 y (by simp [hy])
    · -- the group gets a lane
      have hne : ¬ pick ends g.fr ends.length = -1 := by omega
      have hH2 := hH.step g0 g1 hle hne
      have hin : ends.getD b 0 ∈ ends := mem_getD.2 ⟨b, hb, rfl⟩
      have hen : ∀ e ∈ ends' ends g, e ∈ ends ∨ e = g.hi := fun e he => by
        unfold ends' at he
        rw [if_neg hne] at he
        exact List.mem_or_eq_of_mem_set he
      obtain ⟨T, t1, t2, t3, t4⟩ := tight L (ends' ends g) ((g, pick ends g.fr ends.length) :: S) hH2 hS2.2 (fun x hx => hV x (by simp [hx]))
        (fun e he x hx => by
          rcases hen e he with h | rfl
          · exact hE e h x (by simp [hx])
          · exact hS2.1 x hx)
        (fun z hz x hx => by
          rcases List.mem_cons.1 hz with rfl | hz
          · exact hS2.1 x hx
          · exact hZ z hz x (by simp [hx]))
      rw [ends'_len] at t1
      have hm : ∀ z, z ∈ ((g, pick ends g.fr ends.length) :: S) ++ L.zip (gre (ends' ends g) L) ↔ z ∈ S ++ (g, pick ends g.fr ends.length) :: L.zip (gre (ends' ends g) L) := fun z => by
        simp only [List.mem_append, List.mem_cons]
        constructor
        · rintro ((h | h) | h)
          · exact .inr (.inl h)
          · exact .inl h
          · exact .inr (.inr h)
        · rintro (h | h | h)
          · exact .inl (.inr h)
          · exact .inl (.inl h)
          · exact .inr h
      have hxx : ∀ x, (∀ e ∈ ends, x ≤ e) → ∀ e ∈ ends' ends g, x ≤ e := fun x h1 e he => by
        rcases hen e he with h | rfl
        · exact h1 e h
        · have := h1 _ hin; omega
      refine ⟨T, ⟨t1.up, fun t ht j hj => ?_, fun z hz hs => ?_, fun z hz hs => t1.one z ((hm z).2 hz) hs⟩, t2, fun t ht x h1 h2 => t3 t ht x (hxx x h1) fun y hy => h2 y (by simp [hy]), fun z hz hs x h1 => ?_⟩
      · obtain ⟨z, hz, z1, z2⟩ := t1.cov t ht j hj
        exact ⟨z, (hm z).1 hz, z1, z2⟩
      · rcases List.mem_cons.1 hz with rfl | hz
        · simp only [srv, q, decide_eq_false_iff_not] at hs; omega
        · exact t1.hit z hz hs
      · rcases List.mem_cons.1 hz with rfl | hz
        · have := h1 _ hin; simp only; omega
        · exact t4 z hz hs x (hxx x h1)
theorem at_least {k : Nat} {zs : List (Gr × Int)} {t : Int} (h : ∀ j : Nat, j < k → ∃ z ∈ zs, z.2 = (j : Int) ∧ stays z.1 t = true) : k ≤ zs.countP fun z => srv z && stays z.1 t := by
  have h1 : ((List.range k).map fun n : Nat => (n : Int)).Nodup := by
    rw [List.Nodup, List.pairwise_map]
    exact List.nodup_range.imp fun h e => h (by omega)
  have h2 : ∀ x ∈ (List.range k).map fun n : Nat => (n : Int), x ∈ (zs.filter fun z => srv z && stays z.1 t).map (·.2) := by
    intro x hx
    obtain ⟨j, hj, rfl⟩ := List.mem_map.1 hx
    obtain ⟨z, hz, z1, z2⟩ := h j (List.mem_range.1 hj)
    exact List.mem_map.2 ⟨z, List.mem_filter.2 ⟨hz, by simp [srv, z1, z2]⟩, z1⟩
  have := nodup_len h1 h2
  simpa [List.countP_eq_length_filter] using this
theorem le_hit {k : Nat} {zs : List (Gr × Int)} : ∀ T : List Int, T.Pairwise (· < ·) → (∀ t ∈ T, ∀ j : Nat, j < k → ∃ z ∈ zs, z.2 = (j : Int) ∧ stays z.1 t = true) → (∀ z ∈ zs, srv z = true → ∀ t ∈ T, ∀ t' ∈ T, stays z.1 t = true → stays z.1 t' = true → t = t') → k * T.length ≤ zs.countP (hitZ T)
  | [], _, _, _ => by simp
  | t :: T, hu, hc, ho => by
    have hu2 := List.pairwise_cons.1 hu
    have h1 := le_hit T hu2.2 (fun x hx => hc x (by simp [hx])) fun z hz hs x hx y hy => ho z hz hs x (by simp [hx]) y (by simp [hy])
    have h2 := at_least (hc t (by simp))
    have h3 := countP_or_eq zs (fun z => srv z && stays z.1 t) (hitZ T) fun z hz a1 a2 => by
      simp only [hitZ, Bool.and_eq_true] at a1 a2
      obtain ⟨x, hx, hs⟩ := List.any_eq_true.1 a2.2
      have := ho z hz a1.1 t (by simp) x (by simp [hx]) a1.2 hs
      have := hu2.1 x hx
      omega
    rw [show hitZ (t :: T) = fun z => (srv z && stays z.1 t) || hitZ T z from funext (hitZ_cons t T), List.length_cons, Nat.mul_succ]
    omega
/-- The greedy plan serves as many as some marks' bound. -/
theorem strong_dual (k : Nat) {L : List Gr} (hS : L.Pairwise fun a b => a.hi ≤ b.hi) (hV : ∀ g ∈ L, 0 ≤ g.fr ∧ g.fr ≤ g.hi ∧ g.hi ≤ 30) : ∃ T : List Int, T.Pairwise (· < ·) ∧ (∀ t ∈ T, 0 ≤ t ∧ t ≤ 30) ∧ boundL k L T = (L.zip (gre (List.replicate k (-1)) L)).countP srv := by
  have hg : ∀ j, (List.replicate k (-1 : Int)).getD j 0 = if j < k then -1 else 0 := fun j => by
    rw [List.getD_eq_getElem?_getD, List.getElem?_replicate]; split <;> rfl
  obtain ⟨T, t1, t2, _⟩ := tight L (List.replicate k (-1)) [] ⟨fun i j hi hj h0 _ => by
      rw [List.length_replicate] at hi; rw [hg, if_pos hi] at h0; omega⟩ hS hV (fun e he g h => by have := List.eq_of_mem_replicate he; have := hV g h; omega) (by simp)
  refine ⟨T, t1.up, t2, ?_⟩
  rw [List.length_replicate] at t1
  have hz : (L.zip (gre (List.replicate k (-1)) L)).map (·.1) = L := List.map_fst_zip (by rw [gre_len]; exact Nat.le_refl _)
  have hR := gre_right L (List.replicate k (-1)) fun g h => (hV g h).2.1
  have hL := gre_lane L (List.replicate k (-1))
  rw [List.length_replicate] at hL
  have h1 := weak_dual hR (fun z h => (hL z h).2) T
  have h2 := le_hit T t1.up t1.cov t1.one
  rw [hz] at h1
  rw [List.nil_append] at h2
  have h3 := countP_split (L.zip (gre (List.replicate k (-1)) L)) srv fun z => hit T z.1
  have h4 : (L.zip (gre (List.replicate k (-1)) L)).countP (fun z => srv z && !hit T z.1) = L.countP fun g => !hit T g := by
    conv => rhs; rw [← hz, countP_map']
    refine List.countP_congr fun z hzz => ?_
    cases hs : srv z with
    | true => simp
    | false => have := t1.hit z hzz hs; simp [this]
  have h5 : (L.zip (gre (List.replicate k (-1)) L)).countP (hitZ T) = (L.zip (gre (List.replicate k (-1)) L)).countP fun z => srv z && hit T z.1 := rfl
  unfold boundL at h1 ⊢
  omega
end Go.Proofs.Ythpkgabckklojaa.En

/- Plain words for lend: shoes; no fitting leaves fewer feet bare than any sizes lack, and the greedy one leaves as many as some sizes lack. Nothing is asked. -/
namespace Go.Proofs.Ythpkgabckklojaa.En
open Go.RowKit Go.Shelf

/-- The sum of some numbers of the first ones. -/
def sumC (c : Int → Bool) (v : Int → Int) : Nat → Int
  | 0 => 0
  | n + 1 => sumC c v n + if c n = true then v n else 0
/-- The sizes that feet of some sizes may wear. -/
def nbr (S : List Int) (s : Int) : Bool := decide (s ∈ S ∨ s - 1 ∈ S)
def cntW (ws : List Int) (s : Int) : Nat := ws.countP fun w => decide (w = s)
def bare (ws : List Int) : Nat := cntW ws (-1)
def shoe (sh : List Int) (s : Int) : Int := sh.getD s.toNat 0
def lackI (sh feet S : List Int) : Int := (feet.countP fun f => decide (f ∈ S) : Nat) - sumC (nbr S) (shoe sh) 10
def lack (sh feet S : List Int) : Int := max 0 (lackI sh feet S)
def wearOk (z : Int × Int) : Bool := decide (z.2 = -1) || (inI z.2 0 9 && decide (z.2 = z.1 ∨ z.2 = z.1 + 1))
structure Fitting (sh feet ws : List Int) : Prop where
  n : ws.length = feet.length
  ok : ∀ z ∈ feet.zip ws, wearOk z = true
  used : ∀ s : Nat, s < 10 → (cntW ws s : Int) ≤ shoe sh s
theorem countP_zero' {α : Type} (l : List α) : l.countP (fun _ => false) = 0 := by induction l <;> simp
theorem sumC_count (c : Int → Bool) (ws : List Int) : ∀ n : Nat, sumC c (fun s => (cntW ws s : Int)) n = ((ws.countP fun w : Int => decide (0 ≤ w ∧ w < (n : Int)) && c w : Nat) : Int)
  | 0 => by
    have : (fun w : Int => decide (0 ≤ w ∧ w < ((0 : Nat) : Int)) && c w) = fun _ => false := by
      funext w; rw [show decide (0 ≤ w ∧ w < ((0 : Nat) : Int)) = false from decide_eq_false (by omega)]; rfl
    rw [this, countP_zero']; rfl
  | n + 1 => by
    rw [sumC, sumC_count c ws n]
    have h1 : (fun w : Int => decide (0 ≤ w ∧ w < ((n + 1 : Nat) : Int)) && c w) = fun w => (decide (0 ≤ w ∧ w < (n : Int)) && c w) || (decide (w = (n : Int)) && c w) := by
      funext w
      by_cases h : w = (n : Int)
      · subst h; rw [show decide ((0 : Int) ≤ n ∧ (n : Int) < ((n + 1 : Nat) : Int)) = true from decide_eq_true (by omega)]; simp
      · rw [show decide (0 ≤ w ∧ w < ((n + 1 : Nat) : Int)) = decide (0 ≤ w ∧ w < (n : Int)) from decide_eq_decide.2 (by omega)]; simp [h]
    rw [h1, countP_or_eq _ _ _ fun w _ a b => by simp only [Bool.and_eq_true, decide_eq_true_eq] at a b; omega]
    by_cases hc : c n = true
    · rw [if_pos hc]
      have : (fun w : Int => decide (w = (n : Int)) && c w) = fun w => decide (w = (n : Int)) := by
        funext w
        by_cases h : w = (n : Int)
        · rw [h, hc]; simp
        · simp [h]
      rw [this]; unfold cntW; omega
    · rw [if_neg hc]
      have : (fun w : Int => decide (w = (n : Int)) && c w) = fun _ => false := by
        funext w
        by_cases h : w = (n : Int)
        · rw [h]; simp [hc]
        · simp [h]
      rw [this, countP_zero']; simp
theorem sumC_le {c : Int → Bool} {u v : Int → Int} : ∀ {n : Nat}, (∀ s : Nat, s < n → u s ≤ v s) → sumC c u n ≤ sumC c v n
  | 0, _ => Int.le_refl _
  | n + 1, h => by
    have := sumC_le (n := n) (c := c) fun s hs => h s (by omega)
    have := h n (by omega)
    unfold sumC; split <;> omega
theorem sumC_eq {c : Int → Bool} {u v : Int → Int} : ∀ {n : Nat}, (∀ s : Nat, s < n → c s = true → u s = v s) → sumC c u n = sumC c v n
  | 0, _ => rfl
  | n + 1, h => by
    have := sumC_eq (n := n) (c := c) fun s hs => h s (by omega)
    unfold sumC
    split
    · rename_i hc; rw [h n (by omega) hc]; omega
    · omega
theorem zip_fst {feet ws : List Int} (h : ws.length = feet.length) : (feet.zip ws).map (·.1) = feet := List.map_fst_zip (by omega)
theorem zip_snd {feet ws : List Int} (h : ws.length = feet.length) : (feet.zip ws).map (·.2) = ws := List.map_snd_zip (by omega)
theorem count_fst {feet ws : List Int} (h : ws.length = feet.length) (p : Int → Bool) : feet.countP p = (feet.zip ws).countP fun z => p z.1 := by
  conv => lhs; rw [← zip_fst h, countP_map']
theorem count_snd {feet ws : List Int} (h : ws.length = feet.length) (p : Int → Bool) : ws.countP p = (feet.zip ws).countP fun z => p z.2 := by
  conv => lhs; rw [← zip_snd h, countP_map']
/-- No fitting leaves fewer feet bare than any sizes lack. -/
theorem lack_le {sh feet ws : List Int} (hF : Fitting sh feet ws) (S : List Int) : lack sh feet S ≤ (bare ws : Nat) := by
  have h1 := sumC_count (nbr S) ws 10
  have h2 : sumC (nbr S) (fun s => (cntW ws s : Int)) 10 ≤ sumC (nbr S) (shoe sh) 10 := sumC_le hF.used
  have h3 := count_fst hF.n fun f => decide (f ∈ S)
  have h4 := countP_split (feet.zip ws) (fun z => decide (z.1 ∈ S)) fun z => decide (z.2 = -1)
  have h5 : (feet.zip ws).countP (fun z => decide (z.1 ∈ S) && decide (z.2 = -1)) ≤ bare ws := by
    unfold bare cntW
    rw [count_snd hF.n]
    exact List.countP_mono_left fun z _ h => by simp only [Bool.and_eq_true] at h; exact h.2
  have h6 : (feet.zip ws).countP (fun z => decide (z.1 ∈ S) && !decide (z.2 = -1)) ≤ ws.countP fun w => decide (0 ≤ w ∧ w < ((10 : Nat) : Int)) && nbr S w := by
    rw [count_snd hF.n]
    refine List.countP_mono_left fun z hz h => ?_
    simp only [Bool.and_eq_true, Bool.not_eq_true', decide_eq_true_eq, decide_eq_false_iff_not] at h
    have hw := hF.ok z hz
    simp only [wearOk, Bool.or_eq_true, Bool.and_eq_true, decide_eq_true_eq, inI] at hw
    have hw := hw.resolve_left h.2
    simp only [nbr, Bool.and_eq_true, decide_eq_true_eq]
    refine ⟨by omega, ?_⟩
    rcases hw.2 with e | e
    · exact .inl (by rw [e]; exact h.1)
    · exact .inr (by rw [e, show z.1 + 1 - 1 = z.1 by omega]; exact h.1)
  unfold lack lackI
  omega

/-- What a foot wears, of what is left. -/
def wearS (left : List Int) (f : Int) : Int := if inI f 0 9 = true ∧ 0 < shoe left f then f else if inI (f + 1) 0 9 = true ∧ 0 < shoe left (f + 1) then f + 1 else -1
def left' (left : List Int) (f : Int) : List Int := if wearS left f = -1 then left else left.set (wearS left f).toNat (shoe left (wearS left f) - 1)
def greS : List Int → List Int → List Int
  | _, [] => []
  | left, f :: r => wearS left f :: greS (left' left f) r
theorem greS_len : ∀ (r left : List Int), (greS left r).length = r.length
  | [], _ => rfl
  | f :: r, left => by rw [greS, List.length_cons, List.length_cons, greS_len r]
theorem wearS_ok (left : List Int) (f : Int) : wearOk (f, wearS left f) = true := by
  unfold wearS wearOk
  split
  · rename_i h; simp [h.1]
  · split
    · rename_i h; simp [h.1]
    · simp
theorem left'_len (left : List Int) (f : Int) : (left' left f).length = left.length := by unfold left'; split <;> simp
theorem wearS_pos {left : List Int} {f : Int} (h : wearS left f ≠ -1) : 0 < shoe left (wearS left f) ∧ 0 ≤ wearS left f ∧ wearS left f ≤ 9 := by
  have h2 := wearS_ok left f
  simp only [wearOk, Bool.or_eq_true, Bool.and_eq_true, decide_eq_true_eq, inI] at h2
  have h2 := h2.resolve_left h
  refine ⟨?_, h2.1⟩
  unfold wearS at h ⊢
  split
  · rename_i q; exact q.2
  · rename_i q
    rw [if_neg q] at h
    split
    · rename_i q2; exact q2.2
    · rename_i q2; rw [if_neg q2] at h; exact absurd rfl h
theorem shoe_left' {left : List Int} (hn : left.length = 10) (f : Int) (s : Nat) : shoe (left' left f) s = shoe left s - if wearS left f = s then 1 else 0 := by
  unfold left'
  by_cases h : wearS left f = -1
  · rw [if_pos h, if_neg (by omega)]; omega
  · rw [if_neg h]
    obtain ⟨_, h1, h2⟩ := wearS_pos h
    unfold shoe
    rw [getD_set _ _ _ _ (by omega), Int.toNat_natCast]
    by_cases e : wearS left f = s
    · rw [if_pos (by omega), if_pos e, e, Int.toNat_natCast]
    · rw [if_neg (by omega), if_neg e]; omega
/-- What the greedy fitting has to do with what there is. -/
theorem greS_spec : ∀ (r left : List Int), left.length = 10 → (∀ s : Nat, s < 10 → 0 ≤ shoe left s) → (∀ f ∈ r, 0 ≤ f ∧ f ≤ 9) →
    (∀ s : Nat, s < 10 → (cntW (greS left r) s : Int) ≤ shoe left s) ∧
    (∀ z ∈ r.zip (greS left r), z.2 = -1 → (cntW (greS left r) z.1 : Int) = shoe left z.1 ∧ (z.1 + 1 ≤ 9 → (cntW (greS left r) (z.1 + 1) : Int) = shoe left (z.1 + 1))) ∧
    (∀ z ∈ r.zip (greS left r), z.2 = z.1 + 1 → (cntW (greS left r) z.1 : Int) = shoe left z.1) ∧
    (r.zip (greS left r)).Pairwise fun a b => a.2 = -1 → b.2 ≠ a.1 + 1
  | [], left, _, h0, _ => ⟨fun s hs => by have := h0 s hs; simpa [greS, cntW] using this, (by simp [greS]), (by simp [greS]), List.Pairwise.nil⟩
  | f :: r, left, hn, h0, hf => by
    obtain ⟨f0, f9⟩ := hf f (by simp)
    have hs' := shoe_left' hn f
    have h0' : ∀ s : Nat, s < 10 → 0 ≤ shoe (left' left f) s := fun s hs => by
      have := h0 s hs
      rw [hs']
      split
      · rename_i e
        have := (wearS_pos (left := left) (f := f) (by omega)).1
        rw [e] at this; omega
      · omega
    obtain ⟨i1, i2, i3, i4⟩ := greS_spec r (left' left f) (by rw [left'_len, hn]) h0' fun x hx => hf x (by simp [hx])
    have hc : ∀ s : Int, cntW (greS left (f :: r)) s = cntW (greS (left' left f) r) s + if wearS left f = s then 1 else 0 := fun s => by
      unfold cntW
      rw [greS, List.countP_cons]
      congr 1
      by_cases e : wearS left f = s <;> simp [e]
    have hcI : ∀ s : Nat, s < 10 → (cntW (greS left (f :: r)) s : Int) - shoe left s = (cntW (greS (left' left f) r) s : Int) - shoe (left' left f) s := fun s hs => by
      rw [hc, hs']; split <;> simp <;> omega
    have key : ∀ s : Int, 0 ≤ s → s ≤ 9 → ((cntW (greS (left' left f) r) s : Int) = shoe (left' left f) s → (cntW (greS left (f :: r)) s : Int) = shoe left s) := fun s a b h => by
      obtain ⟨n, rfl⟩ : ∃ n : Nat, s = n := ⟨s.toNat, by omega⟩
      have := hcI n (by omega); omega
    have gone : ∀ s : Int, 0 ≤ s → s ≤ 9 → shoe left s ≤ 0 → wearS left f ≠ s → cntW (greS left (f :: r)) s = 0 ∧ shoe left s = 0 := fun s a b h e => by
      obtain ⟨n, rfl⟩ : ∃ n : Nat, s = n := ⟨s.toNat, by omega⟩
      have h1 := i1 n (by omega)
      have h2 := h0 n (by omega)
      rw [hs', if_neg e] at h1
      have := hc n
      rw [if_neg e] at this
      omega
    have hz : (f :: r).zip (greS left (f :: r)) = (f, wearS left f) :: r.zip (greS (left' left f) r) := rfl
    rw [hz]
    -- what a foot that wears not its own size knows
    have hown : wearS left f ≠ f → shoe left f ≤ 0 := fun h => by
      unfold wearS at h
      by_cases q : inI f 0 9 = true ∧ 0 < shoe left f
      · rw [if_pos q] at h; exact absurd rfl h
      · have := mt (fun h => And.intro (inI_iff.2 ⟨f0, f9⟩) h) q; omega
    have hnext : wearS left f = -1 → f + 1 ≤ 9 → shoe left (f + 1) ≤ 0 := fun h h9 => by
      have h1 := hown (by omega)
      unfold wearS at h
      rw [if_neg (fun q => by have := q.2; omega)] at h
      by_cases q : inI (f + 1) 0 9 = true ∧ 0 < shoe left (f + 1)
      · rw [if_pos q] at h; omega
      · have := mt (fun h => And.intro (inI_iff.2 ⟨by omega, h9⟩) h) q; omega
    refine ⟨fun s hs => ?_, fun z hz h => ?_, fun z hz h => ?_, List.pairwise_cons.2 ⟨fun b hb h => ?_, i4⟩⟩
    · have := hcI s hs; have := i1 s hs; omega
    · rcases List.mem_cons.1 hz with rfl | hz
      · simp only at h ⊢
        refine ⟨?_, fun h9 => ?_⟩
        · obtain ⟨a, b⟩ := gone f f0 f9 (hown (by omega)) (by omega); omega
        · obtain ⟨a, b⟩ := gone (f + 1) (by omega) h9 (hnext h h9) (by omega); omega
      · obtain ⟨a, b⟩ := i2 z hz h
        have hzf := hf z.1 (List.mem_cons_of_mem _ (List.of_mem_zip hz).1)
        exact ⟨key _ hzf.1 hzf.2 a, fun h9 => key _ (by omega) h9 (b h9)⟩
    · rcases List.mem_cons.1 hz with rfl | hz
      · simp only at h ⊢
        obtain ⟨a, b⟩ := gone f f0 f9 (hown (by omega)) (by omega); omega
      · have hzf := hf z.1 (List.mem_cons_of_mem _ (List.of_mem_zip hz).1)
        exact key _ hzf.1 hzf.2 (i3 z hz h)
    · simp only at h ⊢
      intro e
      have hb2 := (List.of_mem_zip hb).2
      have hb9 : f + 1 ≤ 9 := by
        have hok : wearOk b = true := by
          have : ∀ (r left : List Int), ∀ z ∈ r.zip (greS left r), wearOk z = true := by
            intro r
            induction r with
            | nil => intro left z hz; cases hz
            | cons f r ih =>
              intro left z hz
              rcases List.mem_cons.1 hz with rfl | hz
              · exact wearS_ok left f
              · exact ih _ z hz
          exact this _ _ b hb
        simp only [wearOk, Bool.or_eq_true, Bool.and_eq_true, decide_eq_true_eq, inI] at hok
        rcases hok with hok | hok <;> omega
      obtain ⟨a, _⟩ := gone (f + 1) (by omega) hb9 (hnext h hb9) (by omega)
      rw [hc, if_neg (by omega)] at a
      have : 0 < cntW (greS (left' left f) r) (f + 1) := List.countP_pos_iff.2 ⟨b.2, hb2, by simp [e]⟩
      omega
theorem greS_ok : ∀ (r left : List Int), ∀ z ∈ r.zip (greS left r), wearOk z = true
  | [], _, z, hz => by cases hz
  | f :: r, left, z, hz => by
    rcases List.mem_cons.1 hz with rfl | hz
    · exact wearS_ok left f
    · exact greS_ok r _ z hz
/-- Some order of the feet, by their sizes, whose greedy fitting this is. -/
def FitOk (sh feet ws : List Int) : Prop := ws.length = feet.length ∧ ∃ fs : List Int, fs.Pairwise (· ≤ ·) ∧ (feet.zip ws).Perm (fs.zip (greS sh fs))
structure FitFacts (sh feet ws : List Int) : Prop where
  fit : Fitting sh feet ws
  bare : ∀ z ∈ feet.zip ws, z.2 = -1 → (cntW ws z.1 : Int) = shoe sh z.1 ∧ (z.1 + 1 ≤ 9 → (cntW ws (z.1 + 1) : Int) = shoe sh (z.1 + 1))
  next : ∀ z ∈ feet.zip ws, z.2 = z.1 + 1 → (cntW ws z.1 : Int) = shoe sh z.1
  none : ∀ z ∈ feet.zip ws, z.2 = -1 → ∀ y ∈ feet.zip ws, y.1 = z.1 + 1 → y.2 = z.1 + 1 → False
theorem fit_facts {sh feet ws : List Int} (hn : sh.length = 10) (h0 : ∀ x ∈ sh, 0 ≤ x) (hf : ∀ f ∈ feet, 0 ≤ f ∧ f ≤ 9) (h : FitOk sh feet ws) : FitFacts sh feet ws := by
  obtain ⟨hl, fs, hs, hp⟩ := h
  have hgl := greS_len fs sh
  have hfs : fs.Perm feet := by
    have := hp.symm.map (·.1)
    rwa [zip_fst hl, zip_fst hgl] at this
  have hws : ws.Perm (greS sh fs) := by
    have := hp.map (·.2)
    rwa [zip_snd hl, zip_snd hgl] at this
  have h0' : ∀ s : Nat, s < 10 → 0 ≤ shoe sh s := fun s hs => by
    have hlt : s < sh.length := by omega
    unfold shoe
    rw [Int.toNat_natCast, List.getD_eq_getElem?_getD, List.getElem?_eq_getElem hlt]
    exact h0 _ (List.getElem_mem hlt)
  obtain ⟨i1, i2, i3, i4⟩ := greS_spec fs sh hn h0' fun f hf' => hf f (hfs.mem_iff.1 hf')
  have hc : ∀ s : Int, cntW ws s = cntW (greS sh fs) s := fun s => hws.countP_eq _
  refine ⟨⟨hl, fun z hz => greS_ok fs sh z (hp.mem_iff.1 hz), fun s hs => by rw [hc]; exact i1 s hs⟩, fun z hz e => ?_, fun z hz e => ?_, fun z hz e y hy ey e2 => ?_⟩
  · rw [hc, hc]; exact i2 z (hp.mem_iff.1 hz) e
  · rw [hc]; exact i3 z (hp.mem_iff.1 hz) e
  · have hz := hp.mem_iff.1 hz
    have hy := hp.mem_iff.1 hy
    obtain ⟨a, ha, rfl⟩ := List.mem_iff_getElem.1 hz
    obtain ⟨b, hb, rfl⟩ := List.mem_iff_getElem.1 hy
    have hla : a < fs.length := by simp at ha; omega
    have hlb : b < fs.length := by simp at hb; omega
    simp only [List.getElem_zip] at e ey e2
    rcases Nat.lt_trichotomy a b with hab | hab | hab
    · have := List.pairwise_iff_getElem.1 i4 a b ha hb hab
      rw [List.getElem_zip, List.getElem_zip] at this
      exact this e e2
    · subst hab; omega
    · have := List.pairwise_iff_getElem.1 hs b a hlb hla hab
      omega
/-- Sizes of feet that belong together with those that are bare. -/
structure Tied (sh feet ws S : List Int) : Prop where
  size : ∀ f ∈ S, 0 ≤ f ∧ f ≤ 9
  gone : ∀ f ∈ S, (cntW ws f : Int) = shoe sh f ∧ (f + 1 ≤ 9 → (cntW ws (f + 1) : Int) = shoe sh (f + 1))
  why : ∀ f ∈ S, f + 1 ∈ S ∨ (f, (-1 : Int)) ∈ feet.zip ws
  all : ∀ z ∈ feet.zip ws, z.2 = -1 → z.1 ∈ S
def addR (S : List Int) (z : Int × Int) : List Int := if z.2 ≠ -1 ∧ (z.2 ∈ S ∨ z.2 - 1 ∈ S) then z.1 :: S else S
theorem Tied.add {sh feet ws S : List Int} (h : Tied sh feet ws S) (hF : FitFacts sh feet ws) (hf : ∀ f ∈ feet, 0 ≤ f ∧ f ≤ 9) {z : Int × Int} (hz : z ∈ feet.zip ws) : Tied sh feet ws (addR S z) := by
  unfold addR
  split
  case isFalse => exact h
  rename_i hq
  by_cases hin : z.1 ∈ S
  · refine ⟨fun f hf' => ?_, fun f hf' => ?_, fun f hf' => ?_, fun y hy e => List.mem_cons_of_mem _ (h.all y hy e)⟩
    · rcases List.mem_cons.1 hf' with rfl | hf'
      · exact h.size _ hin
      · exact h.size f hf'
    · rcases List.mem_cons.1 hf' with rfl | hf'
      · exact h.gone _ hin
      · exact h.gone f hf'
    · have := h.why f (by rcases List.mem_cons.1 hf' with rfl | hf'; exact hin; exact hf')
      exact this.imp (List.mem_cons_of_mem _) id
  · have hw := hF.fit.ok z hz
    simp only [wearOk, Bool.or_eq_true, Bool.and_eq_true, decide_eq_true_eq, inI] at hw
    obtain ⟨hw1, hw2⟩ := hw.resolve_left hq.1
    have hnext : z.2 = z.1 + 1 ∧ z.1 + 1 ∈ S := by
      rcases hw2 with e | e
      · rw [e] at hq
        rcases hq.2 with h1 | h1
        · exact absurd h1 hin
        · rcases h.why _ h1 with h2 | h2
          · rw [show z.1 - 1 + 1 = z.1 by omega] at h2; exact absurd h2 hin
          · exact (hF.none _ h2 rfl z hz (by simp only; omega) (by simp only; omega)).elim
      · rw [e] at hq
        rcases hq.2 with h1 | h1
        · exact ⟨e, h1⟩
        · rw [show z.1 + 1 - 1 = z.1 by omega] at h1; exact absurd h1 hin
    have hzs := hf z.1 (List.of_mem_zip hz).1
    refine ⟨fun f hf' => ?_, fun f hf' => ?_, fun f hf' => ?_, fun y hy e => List.mem_cons_of_mem _ (h.all y hy e)⟩
    · rcases List.mem_cons.1 hf' with rfl | hf'
      · exact hzs
      · exact h.size f hf'
    · rcases List.mem_cons.1 hf' with rfl | hf'
      · exact ⟨hF.next z hz hnext.1, fun _ => (h.gone _ hnext.2).1⟩
      · exact h.gone f hf'
    · rcases List.mem_cons.1 hf' with rfl | hf'
      · exact .inl (List.mem_cons_of_mem _ hnext.2)
      · exact (h.why f hf').imp (List.mem_cons_of_mem _) id
/-- Nothing more belongs to them. -/
def ClosedS (feet ws S : List Int) : Prop := ∀ z ∈ feet.zip ws, z.2 ≠ -1 → (z.2 ∈ S ∨ z.2 - 1 ∈ S) → z.1 ∈ S
/-- They lack as many as are bare. -/
theorem tied_lack {sh feet ws S : List Int} (h : Tied sh feet ws S) (hF : FitFacts sh feet ws) (hc : ClosedS feet ws S) : lack sh feet S = (bare ws : Nat) := by
  have h1 := sumC_count (nbr S) ws 10
  have h2 : sumC (nbr S) (fun s => (cntW ws s : Int)) 10 = sumC (nbr S) (shoe sh) 10 := sumC_eq fun s hs hn => by
    simp only [nbr, decide_eq_true_eq] at hn
    rcases hn with hn | hn
    · exact (h.gone _ hn).1
    · have := (h.gone _ hn).2 (by omega)
      rwa [show (s : Int) - 1 + 1 = s by omega] at this
  have hn := hF.fit.n
  have h3 := count_fst hn fun f => decide (f ∈ S)
  have h4 := countP_split (feet.zip ws) (fun z => decide (z.1 ∈ S)) fun z => decide (z.2 = -1)
  have h5 : (feet.zip ws).countP (fun z => decide (z.1 ∈ S) && decide (z.2 = -1)) = bare ws := by
    unfold bare cntW
    rw [count_snd hn]
    refine List.countP_congr fun z hz => ?_
    simp only [Bool.and_eq_true, decide_eq_true_eq]
    exact ⟨fun q => q.2, fun q => ⟨h.all z hz q, q⟩⟩
  have h6 : (feet.zip ws).countP (fun z => decide (z.1 ∈ S) && !decide (z.2 = -1)) = ws.countP fun w => decide (0 ≤ w ∧ w < ((10 : Nat) : Int)) && nbr S w := by
    rw [count_snd hn]
    refine List.countP_congr fun z hz => ?_
    have hw := hF.fit.ok z hz
    simp only [wearOk, Bool.or_eq_true, Bool.and_eq_true, decide_eq_true_eq, inI] at hw
    simp only [nbr, Bool.and_eq_true, Bool.not_eq_true', decide_eq_true_eq, decide_eq_false_iff_not]
    constructor
    · rintro ⟨q1, q2⟩
      have hw := hw.resolve_left q2
      refine ⟨by omega, ?_⟩
      rcases hw.2 with e | e
      · exact .inl (by rw [e]; exact q1)
      · exact .inr (by rw [e, show z.1 + 1 - 1 = z.1 by omega]; exact q1)
    · rintro ⟨q1, q2⟩
      exact ⟨hc z hz (by omega) q2, by omega⟩
  unfold lack lackI
  omega
theorem addR_sub (S : List Int) (z : Int × Int) : ∀ x ∈ S, x ∈ addR S z := fun x hx => by unfold addR; split; exact List.mem_cons_of_mem _ hx; exact hx
theorem foldR_sub : ∀ (zs : List (Int × Int)) (S : List Int), ∀ x ∈ S, x ∈ zs.foldl addR S
  | [], _, x, hx => hx
  | z :: zs, S, x, hx => foldR_sub zs _ x (addR_sub S z x hx)
theorem foldR_mem : ∀ (zs : List (Int × Int)) (S : List Int), ∀ x ∈ zs.foldl addR S, x ∈ S ∨ x ∈ zs.map (·.1)
  | [], _, x, hx => .inl hx
  | z :: zs, S, x, hx => by
    rcases foldR_mem zs _ x hx with h | h
    · unfold addR at h
      split at h
      · rcases List.mem_cons.1 h with rfl | h
        · exact .inr (by simp)
        · exact .inl h
      · exact .inl h
    · exact .inr (by simp only [List.map_cons, List.mem_cons]; exact .inr h)
theorem foldR_same : ∀ (zs : List (Int × Int)) (S : List Int), (∀ x ∈ zs.foldl addR S, x ∈ S) → ∀ z ∈ zs, z.2 ≠ -1 → (z.2 ∈ S ∨ z.2 - 1 ∈ S) → z.1 ∈ S
  | [], _, _, z, hz, _, _ => by cases hz
  | y :: zs, S, h, z, hz, h1, h2 => by
    have hy : ∀ x ∈ addR S y, x ∈ S := fun x hx => h x (foldR_sub zs _ x hx)
    rcases List.mem_cons.1 hz with rfl | hz
    · refine hy _ ?_
      unfold addR
      rw [if_pos ⟨h1, h2⟩]; exact List.mem_cons_self ..
    · have := foldR_same zs (addR S y) (fun x hx => addR_sub S y x (h x hx)) z hz h1 (h2.imp (addR_sub S y _) (addR_sub S y _))
      exact hy _ this
def roundsR (zs : List (Int × Int)) (S : List Int) : Nat → List Int
  | 0 => S
  | n + 1 => zs.foldl addR (roundsR zs S n)
theorem tied_fold {sh feet ws : List Int} (hF : FitFacts sh feet ws) (hf : ∀ f ∈ feet, 0 ≤ f ∧ f ≤ 9) : ∀ (zs : List (Int × Int)) (S : List Int), (∀ z ∈ zs, z ∈ feet.zip ws) → Tied sh feet ws S → Tied sh feet ws (zs.foldl addR S)
  | [], _, _, h => h
  | z :: zs, S, hz, h => tied_fold hF hf zs _ (fun y hy => hz y (by simp [hy])) (h.add hF hf (hz z (by simp)))
def card (S : List Int) : Nat := (List.range 10).countP fun n : Nat => decide ((n : Int) ∈ S)
theorem card_lt {S S' : List Int} (h : ∀ x ∈ S, x ∈ S') (hs : ∀ x ∈ S', 0 ≤ x ∧ x ≤ 9) (hx : ∃ x ∈ S', x ∉ S) : card S < card S' := by
  obtain ⟨x, h1, h2⟩ := hx
  have h3 := countP_split (List.range 10) (fun n : Nat => decide ((n : Int) ∈ S')) fun n : Nat => decide ((n : Int) ∈ S)
  have h4 : (List.range 10).countP (fun n : Nat => decide ((n : Int) ∈ S') && decide ((n : Int) ∈ S)) = card S := by
    unfold card
    refine List.countP_congr fun n _ => ?_
    simp only [Bool.and_eq_true, decide_eq_true_eq]
    exact ⟨fun q => q.2, fun q => ⟨h _ q, q⟩⟩
  have h5 : 0 < (List.range 10).countP fun n : Nat => decide ((n : Int) ∈ S') && !decide ((n : Int) ∈ S) := by
    have hxs := hs x h1
    refine List.countP_pos_iff.2 ⟨x.toNat, List.mem_range.2 (by omega), ?_⟩
    rw [show ((x.toNat : Nat) : Int) = x by omega]
    simp [h1, h2]
  unfold card at h4 ⊢
  omega
theorem rounds_closed {sh feet ws S : List Int} (hF : FitFacts sh feet ws) (hf : ∀ f ∈ feet, 0 ≤ f ∧ f ≤ 9) (h : Tied sh feet ws S) : ∀ n : Nat, Tied sh feet ws (roundsR (feet.zip ws) S n) ∧ (ClosedS feet ws (roundsR (feet.zip ws) S n) ∨ card S + n ≤ card (roundsR (feet.zip ws) S n))
  | 0 => ⟨h, .inr (Nat.le_refl _)⟩
  | n + 1 => by
    obtain ⟨h1, h2⟩ := rounds_closed hF hf h n
    have h3 : Tied sh feet ws (roundsR (feet.zip ws) S (n + 1)) := tied_fold hF hf _ _ (fun _ h => h) h1
    refine ⟨h3, ?_⟩
    by_cases hs : ∀ x ∈ roundsR (feet.zip ws) S (n + 1), x ∈ roundsR (feet.zip ws) S n
    · left
      intro z hz a b
      have hb : ∀ y, y ∈ roundsR (feet.zip ws) S (n + 1) → y ∈ roundsR (feet.zip ws) S n := fun y hy => hs y hy
      exact foldR_sub _ _ _ (foldR_same (feet.zip ws) (roundsR (feet.zip ws) S n) hs z hz a (b.imp (hb _) (hb _)))
    · right
      have hx : ∃ x ∈ roundsR (feet.zip ws) S (n + 1), x ∉ roundsR (feet.zip ws) S n := by
        refine Classical.byContradiction fun hn => hs fun x hx => Classical.byContradiction fun hn2 => hn ⟨x, hx, hn2⟩
      have hlt : card (roundsR (feet.zip ws) S n) < card (roundsR (feet.zip ws) S (n + 1)) := card_lt (foldR_sub _ _) h3.size hx
      rcases h2 with h2 | h2
      · exfalso
        obtain ⟨x, hx1, hx2⟩ := hx
        refine hx2 ?_
        -- a closed list does not grow
        have : ∀ (zs : List (Int × Int)) (A : List Int), (∀ z ∈ zs, z ∈ feet.zip ws) → (∀ y ∈ A, y ∈ roundsR (feet.zip ws) S n) → ∀ y ∈ zs.foldl addR A, y ∈ roundsR (feet.zip ws) S n := by
          intro zs
          induction zs with
          | nil => intro A _ hA y hy; exact hA y hy
          | cons z zs ih =>
            intro A hz hA y hy
            refine ih (addR A z) (fun y hy => hz y (by simp [hy])) (fun y hy => ?_) y hy
            unfold addR at hy
            split at hy
            · rename_i hq
              rcases List.mem_cons.1 hy with rfl | hy
              · exact h2 z (hz z (by simp)) hq.1 (hq.2.imp (hA _) (hA _))
              · exact hA y hy
            · exact hA y hy
        exact this _ _ (fun _ h => h) (fun _ h => h) x hx1
      · omega
def baresL (feet ws : List Int) : List Int := ((feet.zip ws).filter fun z => decide (z.2 = -1)).map (·.1)
/-- Those of ten rounds lack as many as are bare. -/
theorem sizes_lack {sh feet ws S : List Int} (hF : FitFacts sh feet ws) (hf : ∀ f ∈ feet, 0 ≤ f ∧ f ≤ 9) (hS : ∀ x, x ∈ S ↔ x ∈ baresL feet ws) : lack sh feet (roundsR (feet.zip ws) S 10) = (bare ws : Nat) ∧ ∀ x ∈ roundsR (feet.zip ws) S 10, 0 ≤ x ∧ x ≤ 9 := by
  have hmem : ∀ x, x ∈ S ↔ (x, (-1 : Int)) ∈ feet.zip ws := fun x => by
    rw [hS, baresL, List.mem_map]
    constructor
    · rintro ⟨z, hz, rfl⟩
      obtain ⟨h1, h2⟩ := List.mem_filter.1 hz
      have e : z = (z.1, -1) := by have := of_decide_eq_true h2; rw [← this]
      rw [← e]; exact h1
    · intro h; exact ⟨_, List.mem_filter.2 ⟨h, by simp⟩, rfl⟩
  have h0 : Tied sh feet ws S := ⟨fun f h => hf f (List.of_mem_zip ((hmem f).1 h)).1, fun f h => hF.bare _ ((hmem f).1 h) rfl, fun f h => .inr ((hmem f).1 h), fun z hz e => (hmem z.1).2 (by rw [← e]; exact hz)⟩
  obtain ⟨h1, h2⟩ := rounds_closed hF hf h0 10
  refine ⟨tied_lack h1 hF (h2.resolve_right fun h => ?_), h1.size⟩
  have hle : card (roundsR (feet.zip ws) S 10) ≤ 10 := by unfold card; exact Nat.le_trans List.countP_le_length (by simp)
  have hz : card S = 0 := by omega
  have hno : ∀ x, x ∉ S := fun x hx => by
    have hxs := h0.size x hx
    have : 0 < card S := List.countP_pos_iff.2 ⟨x.toNat, List.mem_range.2 (by omega), by rw [show ((x.toNat : Nat) : Int) = x by omega]; simp [hx]⟩
    omega
  have hS0 : S = [] := List.eq_nil_iff_forall_not_mem.2 hno
  have hid : ∀ n, roundsR (feet.zip ws) S n = [] := by
    intro n
    induction n with
    | zero => exact hS0
    | succ n ih =>
      show (feet.zip ws).foldl addR (roundsR (feet.zip ws) S n) = []
      rw [ih]
      generalize feet.zip ws = zs
      induction zs with
      | nil => rfl
      | cons z zs ih => rw [List.foldl_cons]; simpa [addR] using ih
  rw [hid 10] at h
  simp [card] at h
end Go.Proofs.Ythpkgabckklojaa.En

/- Plain words for lend: plans, the greatest number of groups, and the cheapest marks. Nothing is asked. -/
namespace Go.Proofs.Ythpkgabckklojaa.En
open Go.RowKit Go.Shelf

def served (plan : List Int) : Nat := plan.countP fun n => decide (0 ≤ n)
def isPlan (k : Int) (l : List Gr) (plan : List Int) : Bool := plan.all (fun n => inI n (-1) (k - 1)) && decide (plan.length = l.length)
def rightB (l : List Gr) (plan : List Int) : Bool := decide (RightZ (l.zip plan))
def plannedE (h : Hs) (l : List Gr) (plan : List Int) : Int := if fault h l ≠ 0 then fault h l else if isPlan h.lanes l plan = false then 2 else if rightB l plan = false then 8 else 0
/-- What the plan of Serve has to do with the greedy one. -/
def ServeOk (k : Nat) (l : List Gr) (p : List Int) : Prop := p.length = l.length ∧ ∃ L : List Gr, L.Pairwise (fun a b => a.hi ≤ b.hi) ∧ (l.zip p).Perm (L.zip (gre (List.replicate k (-1)) L))
theorem served_zip {l : List Gr} {p : List Int} (h : p.length = l.length) : served p = (l.zip p).countP srv := by
  unfold served
  conv => lhs; rw [show p = (l.zip p).map (·.2) from (List.map_snd_zip (by omega)).symm, countP_map']
  rfl
theorem boundL_perm {k : Nat} {l l' : List Gr} (h : l.Perm l') (T : List Int) : boundL k l T = boundL k l' T := by unfold boundL; rw [h.countP_eq]
structure ServeFacts (k : Nat) (l : List Gr) (p : List Int) : Prop where
  n : p.length = l.length
  lane : ∀ n ∈ p, -1 ≤ n ∧ n < k
  right : RightZ (l.zip p)
  marks : ∃ T : List Int, T.Pairwise (· < ·) ∧ (∀ t ∈ T, 0 ≤ t ∧ t ≤ 30) ∧ boundL k l T = served p
theorem serve_facts {k : Nat} {l : List Gr} {p : List Int} (hV : ∀ g ∈ l, VGr g) (h : ServeOk k l p) : ServeFacts k l p := by
  obtain ⟨hn, L, hs, hp⟩ := h
  have hgl := gre_len L (List.replicate k (-1))
  have hL : l.Perm L := by
    have := hp.map (·.1)
    rwa [List.map_fst_zip (by omega), List.map_fst_zip (by omega)] at this
  have hVL : ∀ g ∈ L, 0 ≤ g.fr ∧ g.fr ≤ g.hi ∧ g.hi ≤ 30 := fun g hg => by
    have v := hV g (hL.mem_iff.2 hg)
    have := v.f0; have := v.fl; have := v.lh; have := v.h1
    omega
  obtain ⟨T, t1, t2, t3⟩ := strong_dual k hs hVL
  refine ⟨hn, fun n hn' => ?_, ?_, T, t1, t2, ?_⟩
  · have hm : n ∈ (l.zip p).map (·.2) := by rw [List.map_snd_zip (by omega)]; exact hn'
    obtain ⟨z, hz, rfl⟩ := List.mem_map.1 hm
    have := gre_lane L (List.replicate k (-1)) z (hp.mem_iff.1 hz)
    rwa [List.length_replicate] at this
  · exact (hp.pairwise_iff fun h => apartP_symm h).2 (gre_right L _ fun g hg => (hVL g hg).2.1)
  · rw [boundL_perm hL, t3, served_zip hn, hp.countP_eq]
/-- No right plan serves more than any marks' bound; the plan of Serve as many as some. -/
theorem right_le {k : Nat} {l : List Gr} {q : List Int} (hn : q.length = l.length) (hk : ∀ n ∈ q, n < k) (hR : RightZ (l.zip q)) (T : List Int) : served q ≤ boundL k l T := by
  have := weak_dual hR (fun z hz => hk _ (List.of_mem_zip hz).2) T
  rwa [← served_zip hn, List.map_fst_zip (by omega)] at this
theorem serve_most {k : Nat} {l : List Gr} {p q : List Int} (h : ServeFacts k l p) (hn : q.length = l.length) (hk : ∀ n ∈ q, n < k) (hR : RightZ (l.zip q)) : served q ≤ served p := by
  obtain ⟨T, _, _, e⟩ := h.marks
  rw [← e]; exact right_le hn hk hR T
theorem serve_same {k : Nat} {l l' : List Gr} {p p' : List Int} (h : ServeFacts k l p) (h' : ServeFacts k l' p') (hp : l.Perm l') : served p = served p' := by
  obtain ⟨T, _, _, e⟩ := h.marks
  obtain ⟨T', _, _, e'⟩ := h'.marks
  have h1 := right_le h.n (fun n hn => (h.lane n hn).2) h.right T'
  have h2 := right_le h'.n (fun n hn => (h'.lane n hn).2) h'.right T
  rw [boundL_perm hp, e'] at h1
  rw [← boundL_perm hp, e] at h2
  omega

/-- The greatest number, as the reference tries. -/
def mostV (k : Nat) (l : List Gr) : Nat → List Int → Int
  | 0, plan => served plan
  | n + 1, plan => (List.range k).foldl (fun (b : Int) (lane : Nat) => if rightB (l.take (plan.length + 1)) (plan ++ [(lane : Int)]) = true then max b (mostV k l n (plan ++ [(lane : Int)])) else b) (mostV k l n (plan ++ [-1]))
theorem foldl_most (c : Nat → Prop) [DecidablePred c] (f : Nat → Int) : ∀ (xs : List Nat) (b : Int), b ≤ xs.foldl (fun b x => if c x then max b (f x) else b) b ∧ (∀ x ∈ xs, c x → f x ≤ xs.foldl (fun b x => if c x then max b (f x) else b) b) ∧
    (xs.foldl (fun b x => if c x then max b (f x) else b) b = b ∨ ∃ x ∈ xs, c x ∧ xs.foldl (fun b x => if c x then max b (f x) else b) b = f x)
  | [], b => ⟨Int.le_refl _, by simp, .inl rfl⟩
  | y :: xs, b => by
    obtain ⟨h1, h2, h3⟩ := foldl_most c f xs (if c y then max b (f y) else b)
    rw [List.foldl_cons]
    refine ⟨?_, fun x hx hc => ?_, ?_⟩
    · exact Int.le_trans (by split <;> omega) h1
    · rcases List.mem_cons.1 hx with rfl | hx
      · exact Int.le_trans (by rw [if_pos hc]; omega) h1
      · exact h2 x hx hc
    · rcases h3 with h3 | ⟨x, hx, hc, h3⟩
      · rw [h3]
        split
        · rename_i hc
          by_cases h : b ≤ f y
          · exact .inr ⟨y, by simp, hc, by omega⟩
          · exact .inl (by omega)
        · exact .inl rfl
      · exact .inr ⟨x, by simp [hx], hc, h3⟩
/-- A right plan whose first lanes are told. -/
structure Ext (k : Nat) (l : List Gr) (plan q : List Int) : Prop where
  n : q.length = l.length
  pre : plan <+: q
  ok : ∀ x ∈ q, -1 ≤ x ∧ x < k
  right : RightZ (l.zip q)
theorem zip_snoc {l : List Gr} {plan : List Int} (x : Int) (h : plan.length < l.length) : (l.take (plan.length + 1)).zip (plan ++ [x]) = (l.take plan.length).zip plan ++ [(l[plan.length], x)] := by
  rw [List.take_succ_eq_append_getElem h, List.zip_append (by rw [List.length_take]; omega)]; rfl
theorem right_pre {l : List Gr} {plan q : List Int} (h : plan <+: q) (hR : RightZ (l.zip q)) : RightZ ((l.take plan.length).zip plan) := by
  obtain ⟨r, rfl⟩ := h
  refine List.Pairwise.sublist ?_ hR
  have e : ∀ (a : List Int) (l : List Gr) (b : List Int), ((l.take a.length).zip a).Sublist (l.zip (a ++ b)) := by
    intro a
    induction a with
    | nil => intro l b; simp
    | cons x a ih =>
      intro l b
      cases l with
      | nil => simp
      | cons g l => simpa using ih l b
  exact e plan l r
theorem mostV_spec (k : Nat) (l : List Gr) : ∀ (n : Nat) (plan : List Int), plan.length + n = l.length → RightZ ((l.take plan.length).zip plan) → (∀ x ∈ plan, -1 ≤ x ∧ x < (k : Int)) →
    (∃ q, Ext k l plan q ∧ (served q : Int) = mostV k l n plan) ∧ ∀ q, Ext k l plan q → (served q : Int) ≤ mostV k l n plan
  | 0, plan, hl, hR, hk => by
    have e : l.take plan.length = l := List.take_of_length_le (by omega)
    rw [e] at hR
    refine ⟨⟨plan, ⟨by omega, List.prefix_refl _, hk, hR⟩, rfl⟩, fun q hq => ?_⟩
    have : plan = q := hq.pre.eq_of_length (by have := hq.n; omega)
    rw [this]; exact Int.le_refl _
  | n + 1, plan, hl, hR, hk => by
    have hlt : plan.length < l.length := by omega
    have hs : ∀ x, -1 ≤ x ∧ x < (k : Int) → RightZ ((l.take (plan.length + 1)).zip (plan ++ [x])) → (∃ q, Ext k l (plan ++ [x]) q ∧ (served q : Int) = mostV k l n (plan ++ [x])) ∧ ∀ q, Ext k l (plan ++ [x]) q → (served q : Int) ≤ mostV k l n (plan ++ [x]) := fun x hx hr => by
      refine mostV_spec k l n (plan ++ [x]) (by rw [List.length_append, List.length_singleton]; omega) (by rw [List.length_append, List.length_singleton]; exact hr) fun y hy => ?_
      rcases List.mem_append.1 hy with hy | hy
      · exact hk y hy
      · rw [List.mem_singleton.1 hy]; exact hx
    have h0 : RightZ ((l.take (plan.length + 1)).zip (plan ++ [-1])) := by
      rw [zip_snoc _ hlt]
      refine List.pairwise_append.2 ⟨hR, List.pairwise_singleton _ _, fun a _ b hb => ?_⟩
      rw [List.mem_singleton.1 hb]
      rintro ⟨h1, h2, _⟩
      have h2 : a.2 = -1 := h2
      omega
    obtain ⟨f1, f2, f3⟩ := foldl_most (fun lane : Nat => rightB (l.take (plan.length + 1)) (plan ++ [(lane : Int)]) = true) (fun lane : Nat => mostV k l n (plan ++ [(lane : Int)])) (List.range k) (mostV k l n (plan ++ [-1]))
    have hm : mostV k l (n + 1) plan = (List.range k).foldl (fun (b : Int) (lane : Nat) => if rightB (l.take (plan.length + 1)) (plan ++ [(lane : Int)]) = true then max b (mostV k l n (plan ++ [(lane : Int)])) else b) (mostV k l n (plan ++ [-1])) := rfl
    rw [← hm] at f1 f2 f3
    have hup : ∀ x q, Ext k l (plan ++ [x]) q → Ext k l plan q := fun x q h => ⟨h.n, (List.prefix_append _ _).trans h.pre, h.ok, h.right⟩
    refine ⟨?_, fun q hq => ?_⟩
    · rcases f3 with f3 | ⟨x, hx, hc, f3⟩
      · obtain ⟨⟨q, hq, e⟩, _⟩ := hs (-1) (by omega) h0
        exact ⟨q, hup _ q hq, by rw [f3, e]⟩
      · have hx := List.mem_range.1 hx
        obtain ⟨⟨q, hq, e⟩, _⟩ := hs x (by omega) (of_decide_eq_true hc)
        exact ⟨q, hup _ q hq, by rw [f3, e]⟩
    · obtain ⟨r, hr⟩ := hq.pre
      cases r with
      | nil => have := hq.n; rw [← hr] at this; simp at this; omega
      | cons x r =>
        have hp : plan ++ [x] <+: q := ⟨r, by rw [← hr]; simp⟩
        have hE : Ext k l (plan ++ [x]) q := ⟨hq.n, hp, hq.ok, hq.right⟩
        have hx := hq.ok x (by rw [← hr]; simp)
        have hr2 := right_pre hp hq.right
        rw [List.length_append, List.length_singleton] at hr2
        have h3 := (hs x hx hr2).2 q hE
        by_cases e : x = -1
        · subst e; omega
        · have h4 := f2 x.toNat (List.mem_range.2 (by omega))
          rw [show ((x.toNat : Nat) : Int) = x by omega] at h4
          have := h4 (decide_eq_true hr2)
          omega
theorem most_eq {k : Nat} {l : List Gr} {p : List Int} (h : ServeFacts k l p) : mostV k l l.length [] = (served p : Nat) := by
  obtain ⟨⟨q, hq, e⟩, h2⟩ := mostV_spec k l l.length [] (by simp) (by simp [RightZ]) (by simp)
  have h3 := h2 p ⟨h.n, List.nil_prefix, h.lane, h.right⟩
  have h4 := serve_most h hq.n (fun n hn => (hq.ok n hn).2) hq.right
  omega

/-- How many groups lie between two marks. -/
def btw (l : List Gr) (low high : Int) : Int := (l.countP fun g => decide (low < g.fr) && decide (g.hi < high) : Nat)
def costT (k : Int) (l : List Gr) : Int → List Int → Int
  | m, [] => btw l m 31
  | m, t :: T => btw l m t + k + costT k l t T
/-- The cheapest choice behind a mark, by those behind it. -/
def cho (k : Int) (l : List Gr) (m : Int) (tail : List (Int × Int)) (n : Nat) : Int × Int :=
  match n with
  | 0 => (btw l m 31, 31)
  | n + 1 => if btw l m (m + 1 + n) + k + (tail.getD n (0, 0)).1 < (cho k l m tail n).1 then (btw l m (m + 1 + n) + k + (tail.getD n (0, 0)).1, m + 1 + n) else cho k l m tail n
def tbl (k : Int) (l : List Gr) : Nat → List (Int × Int)
  | 0 => []
  | n + 1 => cho k l (30 - n) (tbl k l n) n :: tbl k l n
def choV (k : Int) (l : List Gr) (m : Int) : Int × Int := (tbl k l (31 - m).toNat).getD 0 (0, 31)
theorem tbl_len (k : Int) (l : List Gr) : ∀ n, (tbl k l n).length = n
  | 0 => rfl
  | n + 1 => by rw [tbl, List.length_cons, tbl_len k l n]
theorem tbl_get (k : Int) (l : List Gr) : ∀ (n i : Nat), i < n → (tbl k l n).getD i (0, 0) = choV k l (31 - n + i)
  | 0, i, h => by omega
  | n + 1, 0, _ => by
    unfold choV
    rw [show (31 - (31 - ((n + 1 : Nat) : Int) + ((0 : Nat) : Int))).toNat = n + 1 by omega, tbl]; rfl
  | n + 1, i + 1, h => by
    rw [tbl, List.getD_cons_succ, tbl_get k l n i (by omega)]
    congr 1; omega
/-- The best of the first ones. -/
def choN (k : Int) (l : List Gr) (m : Int) : Nat → Int × Int
  | 0 => (btw l m 31, 31)
  | n + 1 => if btw l m (m + 1 + n) + k + (choV k l (m + 1 + n)).1 < (choN k l m n).1 then (btw l m (m + 1 + n) + k + (choV k l (m + 1 + n)).1, m + 1 + n) else choN k l m n
theorem cho_choN (k : Int) (l : List Gr) (m : Int) (N : Nat) (hN : (N : Int) = 30 - m) : ∀ n, n ≤ N → cho k l m (tbl k l N) n = choN k l m n
  | 0, _ => rfl
  | n + 1, h => by
    unfold cho choN
    rw [cho_choN k l m N hN n (by omega), tbl_get k l N n (by omega), show (31 : Int) - N + n = m + 1 + n by omega]
theorem choV_eq (k : Int) (l : List Gr) {m : Int} (h : -1 ≤ m) (h2 : m ≤ 30) : choV k l m = choN k l m (30 - m).toNat := by
  unfold choV
  obtain ⟨n, hn⟩ : ∃ n : Nat, (31 - m).toNat = n + 1 := ⟨(30 - m).toNat, by omega⟩
  rw [hn, tbl, List.getD_cons_zero, show (30 : Int) - n = m by omega, show (30 - m).toNat = n by omega]
  exact cho_choN k l m n (by omega) n (Nat.le_refl _)
theorem choN_spec (k : Int) (l : List Gr) (m : Int) : ∀ n : Nat, ((choN k l m n).1 = btw l m 31 ∧ (choN k l m n).2 = 31 ∨ ∃ i : Nat, i < n ∧ (choN k l m n).2 = m + 1 + i ∧ (choN k l m n).1 = btw l m (m + 1 + i) + k + (choV k l (m + 1 + i)).1) ∧
    (choN k l m n).1 ≤ btw l m 31 ∧ ∀ i : Nat, i < n → (choN k l m n).1 ≤ btw l m (m + 1 + i) + k + (choV k l (m + 1 + i)).1
  | 0 => ⟨.inl ⟨rfl, rfl⟩, Int.le_refl _, fun i h => by omega⟩
  | n + 1 => by
    obtain ⟨h1, h2, h3⟩ := choN_spec k l m n
    unfold choN
    split
    · rename_i hc
      refine ⟨.inr ⟨n, by omega, rfl, rfl⟩, by simp only; omega, fun i hi => ?_⟩
      by_cases e : i = n
      · subst e; exact Int.le_refl _
      · have := h3 i (by omega); simp only; omega
    · rename_i hc
      refine ⟨h1.imp id fun ⟨i, hi, h⟩ => ⟨i, by omega, h⟩, h2, fun i hi => ?_⟩
      by_cases e : i = n
      · subst e; omega
      · exact h3 i (by omega)
/-- The marks that the choices lead to. -/
def markL (k : Int) (l : List Gr) : Nat → Int → List Int
  | 0, _ => []
  | n + 1, m => if (choV k l m).2 < 31 then (choV k l m).2 :: markL k l n (choV k l m).2 else []
theorem choV_next (k : Int) (l : List Gr) {m : Int} (h : -1 ≤ m) (h2 : m ≤ 30) : m < (choV k l m).2 ∧ (choV k l m).2 ≤ 31 := by
  rw [choV_eq k l h h2]
  rcases (choN_spec k l m (30 - m).toNat).1 with ⟨_, e⟩ | ⟨i, hi, e, _⟩ <;> rw [e] <;> omega
structure MarkOk (k : Int) (l : List Gr) (m : Int) (T : List Int) : Prop where
  up : T.Pairwise (· < ·)
  ok : ∀ t ∈ T, m < t ∧ t ≤ 30
  cost : costT k l m T = (choV k l m).1
theorem markL_ok (k : Int) (l : List Gr) : ∀ (n : Nat) (m : Int), -1 ≤ m → m ≤ 30 → 30 - m ≤ (n : Int) → MarkOk k l m (markL k l n m)
  | 0, m, h, h2, hn => by
    obtain rfl : m = 30 := by omega
    refine ⟨List.Pairwise.nil, (by simp [markL]), ?_⟩
    rw [choV_eq k l h h2]; rfl
  | n + 1, m, h, h2, hn => by
    have hx := choV_next k l h h2
    have hs := (choN_spec k l m (30 - m).toNat).1
    rw [← choV_eq k l h h2] at hs
    unfold markL
    by_cases hc : (choV k l m).2 < 31
    · rw [if_pos hc]
      have ih := markL_ok k l n (choV k l m).2 (by omega) (by omega) (by omega)
      refine ⟨List.pairwise_cons.2 ⟨fun t ht => (ih.ok t ht).1, ih.up⟩, fun t ht => ?_, ?_⟩
      · rcases List.mem_cons.1 ht with rfl | ht
        · omega
        · have := ih.ok t ht; omega
      · rcases hs with ⟨_, e⟩ | ⟨i, hi, e, e2⟩
        · omega
        · rw [costT, ih.cost, e2, e]
    · rw [if_neg hc]
      refine ⟨List.Pairwise.nil, by simp, ?_⟩
      rcases hs with ⟨e, _⟩ | ⟨i, hi, e, e2⟩
      · rw [e]; rfl
      · omega
theorem choV_le (k : Int) (l : List Gr) : ∀ (T : List Int) (m : Int), -1 ≤ m → m ≤ 30 → T.Pairwise (· < ·) → (∀ t ∈ T, m < t ∧ t ≤ 30) → (choV k l m).1 ≤ costT k l m T
  | [], m, h, h2, _, _ => by rw [choV_eq k l h h2]; exact (choN_spec k l m _).2.1
  | t :: T, m, h, h2, hu, ho => by
    have hu := List.pairwise_cons.1 hu
    have ht := ho t (by simp)
    have ih := choV_le k l T t (by omega) ht.2 hu.2 fun x hx => ⟨hu.1 x hx, (ho x (by simp [hx])).2⟩
    have h3 := (choN_spec k l m (30 - m).toNat).2.2 (t - m - 1).toNat (by omega)
    rw [← choV_eq k l h h2, show m + 1 + ((t - m - 1).toNat : Int) = t by omega] at h3
    unfold costT
    omega
/-- What rising marks cost is their bound. -/
theorem costT_cnt (k : Int) {l : List Gr} (hV : ∀ g ∈ l, g.fr ≤ g.hi ∧ g.hi ≤ 30) : ∀ (T : List Int) (m : Int), T.Pairwise (· < ·) → (∀ t ∈ T, m < t) → costT k l m T = k * T.length + (l.countP fun g => decide (m < g.fr) && !hit T g : Nat)
  | [], m, _, _ => by
    unfold costT btw
    rw [List.length_nil]
    have : (l.countP fun g => decide (m < g.fr) && decide (g.hi < 31)) = l.countP fun g => decide (m < g.fr) && !hit [] g := by
      refine List.countP_congr fun g hg => ?_
      have := (hV g hg).2
      simp [hit]; omega
    rw [this]; simp
  | t :: T, m, hu, ho => by
    have hu := List.pairwise_cons.1 hu
    have ht := ho t (by simp)
    have ih := costT_cnt k hV T t hu.2 hu.1
    have h1 := countP_split l (fun g => decide (m < g.fr) && !hit (t :: T) g) fun g => decide (g.hi < t)
    have h2 : (l.countP fun g => (decide (m < g.fr) && !hit (t :: T) g) && decide (g.hi < t)) = l.countP fun g => decide (m < g.fr) && decide (g.hi < t) := by
      refine List.countP_congr fun g hg => ?_
      simp only [Bool.and_eq_true, Bool.not_eq_true', decide_eq_true_eq]
      refine ⟨fun h => ⟨h.1.1, h.2⟩, fun h => ⟨⟨h.1, ?_⟩, h.2⟩⟩
      refine List.any_eq_false.2 fun x hx hs => ?_
      have hs := inI_iff.1 hs
      rcases List.mem_cons.1 hx with rfl | hx
      · omega
      · have := hu.1 x hx; omega
    have h3 : (l.countP fun g => (decide (m < g.fr) && !hit (t :: T) g) && !decide (g.hi < t)) = l.countP fun g => decide (t < g.fr) && !hit T g := by
      refine List.countP_congr fun g hg => ?_
      have := hV g hg
      simp only [Bool.and_eq_true, Bool.not_eq_true', decide_eq_true_eq, decide_eq_false_iff_not]
      have e : hit (t :: T) g = (stays g t || hit T g) := by unfold hit; rw [List.any_cons]
      rw [e, Bool.or_eq_false_iff]
      constructor
      · rintro ⟨⟨a, b, c⟩, d⟩
        refine ⟨?_, c⟩
        simp only [stays, inI, decide_eq_false_iff_not] at b
        omega
      · rintro ⟨a, b⟩
        refine ⟨⟨by omega, ?_, b⟩, by omega⟩
        simp only [stays, inI, decide_eq_false_iff_not]
        omega
    unfold costT btw
    rw [ih, List.length_cons]
    have e2 : k * ((T.length + 1 : Nat) : Int) = k * (T.length : Int) + k := by rw [Int.natCast_add, Int.mul_add]; simp
    rw [e2]
    omega
theorem cost_bound {k : Nat} {l : List Gr} (hV : ∀ g ∈ l, VGr g) {T : List Int} (hu : T.Pairwise (· < ·)) (ho : ∀ t ∈ T, 0 ≤ t ∧ t ≤ 30) : costT k l (-1) T = (boundL k l T : Nat) := by
  rw [costT_cnt k (fun g hg => by have v := hV g hg; have := v.fl; have := v.lh; have := v.h1; omega) T (-1) hu fun t ht => by have := ho t ht; omega]
  unfold boundL
  have : (l.countP fun g => decide (-1 < g.fr) && !hit T g) = l.countP fun g => !hit T g := by
    refine List.countP_congr fun g hg => ?_
    have := (hV g hg).f0
    simp only [Bool.and_eq_true, decide_eq_true_eq]
    exact ⟨fun h => h.2, fun h => ⟨by omega, h⟩⟩
  rw [this]; simp
/-- The marks of Marks. -/
def marksV (k : Int) (l : List Gr) : List Int := markL k l 31 (-1)
theorem marks_facts {k : Nat} {l : List Gr} {p : List Int} (hV : ∀ g ∈ l, VGr g) (h : ServeFacts k l p) : (marksV k l).Pairwise (· < ·) ∧ (∀ t ∈ marksV k l, 0 ≤ t ∧ t ≤ 30) ∧ boundL k l (marksV k l) = served p := by
  have h1 := markL_ok k l 31 (-1) (by omega) (by omega) (by omega)
  have h2 : ∀ t ∈ marksV k l, 0 ≤ t ∧ t ≤ 30 := fun t ht => by have := h1.ok t ht; omega
  refine ⟨h1.up, h2, ?_⟩
  obtain ⟨T, t1, t2, e⟩ := h.marks
  have h3 := cost_bound (k := k) hV h1.up h2
  have h4 := cost_bound (k := k) hV t1 t2
  have h5 := choV_le k l T (-1) (by omega) (by omega) t1 fun t ht => by have := t2 t ht; omega
  have h6 := right_le h.n (fun n hn => (h.lane n hn).2) h.right (marksV k l)
  have h7 := h1.cost
  unfold marksV at h6 ⊢
  omega
end Go.Proofs.Ythpkgabckklojaa.En

/- Plain words for lend: the greedy ones step by step, when a group can come later, fittings as they are tried, sizes by bits. Nothing is asked. -/
namespace Go.Proofs.Ythpkgabckklojaa.En
open Go.RowKit Go.Shelf

/-- A list by an order of its places. -/
theorem scatter {α : Type} [Inhabited α] (l : List α) (p : List Int) (ord : List Nat) (ho : ord.Perm (List.range l.length)) (hp : p.length = l.length) : (l.zip p).Perm (ord.map fun i => (l[i]!, p.getD i 0)) := by
  refine List.Perm.trans ?_ ((ho.map fun i => (l[i]!, p.getD i 0)).symm)
  have : l.zip p = (List.range l.length).map fun i => (l[i]!, p.getD i 0) := by
    refine List.ext_getElem (by simp; omega) fun i h1 h2 => ?_
    have hi : i < l.length := by simp at h1; omega
    rw [List.getElem_zip, List.getElem_map, List.getElem_range, getElem!_pos l i hi, List.getD_eq_getElem?_getD, List.getElem?_eq_getElem (by omega)]
    rfl
  rw [this]
theorem zip_map_range {α β : Type} (f : Nat → α) (vs : List β) [Inhabited β] (ord : List Nat) (h : vs.length = ord.length) (g : Nat → β) (hg : ∀ j (hj : j < ord.length), g ord[j] = vs[j]'(by omega)) : ord.map (fun i => (f i, g i)) = (ord.map f).zip vs := by
  refine List.ext_getElem (by simp; omega) fun i h1 h2 => ?_
  have hi : i < ord.length := by simpa using h1
  rw [List.getElem_zip, List.getElem_map, List.getElem_map, hg i hi]
/-- When the lanes are free after some groups. -/
def endsA (ends : List Int) (L : List Gr) : List Int := L.foldl ends' ends
theorem endsA_len : ∀ (L : List Gr) (ends : List Int), (endsA ends L).length = ends.length
  | [], _ => rfl
  | g :: L, ends => by
    show (endsA (ends' ends g) L).length = _
    rw [endsA_len L, ends'_len]
theorem endsA_snoc (ends : List Int) (L : List Gr) (g : Gr) : endsA ends (L ++ [g]) = ends' (endsA ends L) g := by unfold endsA; rw [List.foldl_append]; rfl
theorem gre_get : ∀ (L : List Gr) (ends : List Int) (j : Nat) (h : j < L.length), (gre ends L)[j]'(by rw [gre_len]; exact h) = pick (endsA ends (L.take j)) L[j].fr (endsA ends (L.take j)).length
  | g :: L, ends, 0, h => rfl
  | g :: L, ends, j + 1, h => by
    have := gre_get L (ends' ends g) j (by simpa using h)
    simpa [gre, endsA] using this
/-- What is left of the shoes after some feet. -/
def leftA (left : List Int) (L : List Int) : List Int := L.foldl left' left
theorem leftA_len : ∀ (L left : List Int), (leftA left L).length = left.length
  | [], _ => rfl
  | f :: L, left => by
    show (leftA (left' left f) L).length = _
    rw [leftA_len L, left'_len]
theorem leftA_snoc (left L : List Int) (f : Int) : leftA left (L ++ [f]) = left' (leftA left L) f := by unfold leftA; rw [List.foldl_append]; rfl
theorem greS_get : ∀ (L left : List Int) (j : Nat) (h : j < L.length), (greS left L)[j]'(by rw [greS_len]; exact h) = wearS (leftA left (L.take j)) L[j]
  | f :: L, left, 0, h => rfl
  | f :: L, left, j + 1, h => by
    have := greS_get L (left' left f) j (by simpa using h)
    simpa [greS, leftA] using this
/-- A plan that is filled place by place. -/
structure Fills (n : Nat) (ord : List Nat) (vs : List Int) (j : Nat) (p : List Int) : Prop where
  n : p.length = n
  got : ∀ i, (h : i < ord.length) → i < j → p.getD ord[i] 0 = vs.getD i 0
  rest : ∀ i, (h : i < ord.length) → j ≤ i → p.getD ord[i] 0 = -1
theorem Fills.start {n : Nat} {ord : List Nat} {vs : List Int} (ho : ∀ i ∈ ord, i < n) : Fills n ord vs 0 (List.replicate n (-1)) :=
  ⟨List.length_replicate, fun i _ h => by omega, fun i h _ => by
    have := ho _ (List.getElem_mem h)
    rw [List.getD_eq_getElem?_getD, List.getElem?_replicate, if_pos this]; rfl⟩
theorem Fills.set {n : Nat} {ord : List Nat} {vs : List Int} {j : Nat} {p : List Int} (h : Fills n ord vs j p) (hd : ord.Nodup) (hj : j < ord.length) (ho : ∀ i ∈ ord, i < n) : Fills n ord vs (j + 1) (p.set ord[j] (vs.getD j 0)) := by
  have hjn := ho _ (List.getElem_mem hj)
  have hset : ∀ i, (hi : i < ord.length) → (p.set ord[j] (vs.getD j 0)).getD ord[i] 0 = if i = j then vs.getD j 0 else p.getD ord[i] 0 := fun i hi => by
    rw [getD_set _ _ _ _ (by rw [h.n]; exact hjn)]
    by_cases e : i = j
    · subst e; rw [if_pos rfl, if_pos rfl]
    · rw [if_neg e, if_neg fun h2 => e ((List.getElem_inj hd).1 h2)]
  refine ⟨by rw [List.length_set, h.n], fun i hi hij => ?_, fun i hi hij => ?_⟩
  · rw [hset i hi]
    by_cases e : i = j
    · rw [if_pos e, e]
    · rw [if_neg e]; exact h.got i hi (by omega)
  · rw [hset i hi, if_neg (by omega)]; exact h.rest i hi (by omega)
theorem Fills.same {n : Nat} {ord : List Nat} {vs : List Int} {j : Nat} {p : List Int} (h : Fills n ord vs j p) (hj : j < ord.length) (hv : vs.getD j 0 = -1) : Fills n ord vs (j + 1) p :=
  ⟨h.n, fun i hi hij => by
    by_cases e : i = j
    · subst e; rw [hv]; exact h.rest i hi (Nat.le_refl _)
    · exact h.got i hi (by omega), fun i hi hij => h.rest i hi (by omega)⟩
theorem Fills.done {n : Nat} {ord : List Nat} {vs : List Int} {p : List Int} (h : Fills n ord vs ord.length p) {α : Type} [Inhabited α] {l : List α} (hl : l.length = n) (ho : ord.Perm (List.range n)) (hv : vs.length = ord.length) : (l.zip p).Perm ((ord.map fun i => l[i]!).zip vs) := by
  have := scatter l p ord (by rw [hl]; exact ho) (by rw [h.n, hl])
  rwa [zip_map_range (fun i => l[i]!) vs ord hv (fun i => p.getD i 0) fun j hj => by
    have := h.got j hj hj
    rw [this, List.getD_eq_getElem?_getD, List.getElem?_eq_getElem (by omega)]; rfl] at this
theorem serve_of {k : Nat} {l : List Gr} {p : List Int} {ord : List Nat} (ho : ord.Perm (List.range l.length)) (hs : (ord.map fun i => l[i]!).Pairwise fun a b => a.hi ≤ b.hi) (h : Fills l.length ord (gre (List.replicate k (-1)) (ord.map fun i => l[i]!)) ord.length p) : ServeOk k l p :=
  ⟨h.n, _, hs, h.done rfl ho (by rw [gre_len, List.length_map])⟩
theorem fit_of {sh feet p : List Int} {ord : List Nat} (ho : ord.Perm (List.range feet.length)) (hs : (ord.map fun i => feet[i]!).Pairwise (· ≤ ·)) (h : Fills feet.length ord (greS sh (ord.map fun i => feet[i]!)) ord.length p) : FitOk sh feet p :=
  ⟨h.n, _, hs, h.done rfl ho (by rw [greS_len, List.length_map])⟩

/-- Who has a lane at an hour. -/
def tk (zs : List (Gr × Int)) (c : Int × Int) : Bool := zs.any fun z => srv z && (decide (z.2 = c.1) && stays z.1 c.2)
def hoursL (g : Gr) : List Int := (List.range (g.hi + 1 - g.fr).toNat).map fun i : Nat => g.fr + (i : Int)
def freeW (m : Int × Int → Bool) (g : Gr) (lane later : Int) : Bool := (hoursL g).all fun t => !m (lane, t + later)
theorem mem_hours {g : Gr} {t : Int} : t ∈ hoursL g ↔ stays g t = true := by
  unfold hoursL stays
  rw [inI_iff, List.mem_map]
  constructor
  · rintro ⟨i, hi, rfl⟩; have := List.mem_range.1 hi; omega
  · intro h; exact ⟨(t - g.fr).toNat, List.mem_range.2 (by omega), by omega⟩
theorem tk_snoc (zs : List (Gr × Int)) (z : Gr × Int) (c : Int × Int) : tk (zs ++ [z]) c = (tk zs c || (srv z && (decide (z.2 = c.1) && stays z.1 c.2))) := by
  unfold tk; rw [List.any_append]; simp
/-- A lane is free for a group just if it meets nobody there. -/
theorem free_apart {zs : List (Gr × Int)} {g : Gr} {lane later : Int} (h0 : 0 ≤ lane) : freeW (tk zs) g lane later = true ↔ ∀ z ∈ zs, z.2 = lane → ∀ t, stays g t = true → stays z.1 (t + later) = true → False := by
  unfold freeW
  rw [List.all_eq_true]
  constructor
  · intro h z hz e t ht hs
    have := h t (mem_hours.2 ht)
    simp only [Bool.not_eq_true', tk] at this
    have := List.any_eq_false.1 this z hz
    simp [srv, e, h0, hs] at this
  · intro h t ht
    simp only [Bool.not_eq_true', tk]
    refine List.any_eq_false.2 fun z hz hc => ?_
    simp only [Bool.and_eq_true, srv, decide_eq_true_eq] at hc
    exact h z hz hc.2.1 t (mem_hours.1 ht) hc.2.2
theorem meets {a b : Gr} (ha : a.fr ≤ a.hi) (hb : b.fr ≤ b.hi) : (∃ t, stays a t = true ∧ stays b t = true) ↔ ovl a b := by
  unfold ovl
  constructor
  · rintro ⟨t, h1, h2⟩; have := inI_iff.1 h1; have := inI_iff.1 h2; omega
  · intro h; exact ⟨max a.fr b.fr, inI_iff.2 (by omega), inI_iff.2 (by omega)⟩
theorem free_right {zs : List (Gr × Int)} {g : Gr} {lane : Int} (h0 : 0 ≤ lane) (hg : g.fr ≤ g.hi) (hz : ∀ z ∈ zs, z.1.fr ≤ z.1.hi) : freeW (tk zs) g lane 0 = true ↔ ∀ z ∈ zs, apartP z (g, lane) := by
  rw [free_apart h0]
  constructor
  · rintro h z hzz ⟨h1, h2, h3⟩
    obtain ⟨t, t1, t2⟩ := (meets (hz z hzz) hg).2 h3
    exact h z hzz h2 t t2 (by rw [Int.add_zero]; exact t1)
  · intro h z hzz e t ht hs
    rw [Int.add_zero] at hs
    exact h z hzz ⟨by omega, e, (meets (hz z hzz) hg).1 ⟨t, hs, ht⟩⟩
/-- The lane and the hour at which a group can come. -/
def laneV (m : Int × Int → Bool) (k : Nat) (g : Gr) (a : Int) : Option Nat := (List.range k).find? fun n : Nat => freeW m g n a
def laterN (m : Int × Int → Bool) (k : Nat) (g : Gr) (N : Nat) : Option (Int × Int) := (List.range N).findSome? fun a : Nat => (laneV m k g a).map fun n => ((n : Int), g.fr + a)
def laterV (m : Int × Int → Bool) (k : Nat) (g : Gr) : Option (Int × Int) := laterN m k g (31 - g.hi).toNat
theorem find_snoc {p : Nat → Bool} {n : Nat} (h : (List.range n).find? p = none) : (List.range (n + 1)).find? p = if p n = true then some n else none := by
  rw [List.range_succ, List.find?_append, h]
  simp only [Option.none_or, List.find?_cons, List.find?_nil]
  cases p n <;> rfl
theorem find_mono {p : Nat → Bool} {n k i : Nat} (h : (List.range n).find? p = some i) (hk : n ≤ k) : (List.range k).find? p = some i := by
  obtain ⟨d, rfl⟩ : ∃ d, k = n + d := ⟨k - n, by omega⟩
  rw [List.range_add, List.find?_append, h]; rfl
theorem laterN_snoc {m : Int × Int → Bool} {k : Nat} {g : Gr} {N : Nat} (h : laterN m k g N = none) : laterN m k g (N + 1) = (laneV m k g N).map fun n => ((n : Int), g.fr + N) := by
  unfold laterN at h ⊢
  rw [List.range_succ, List.findSome?_append, h]
  simp only [Option.none_or, List.findSome?_cons, List.findSome?_nil]
  cases laneV m k g N <;> rfl
theorem laterN_mono {m : Int × Int → Bool} {k : Nat} {g : Gr} {N K : Nat} {r : Int × Int} (h : laterN m k g N = some r) (hk : N ≤ K) : laterN m k g K = some r := by
  unfold laterN at h ⊢
  obtain ⟨d, rfl⟩ : ∃ d, K = N + d := ⟨K - N, by omega⟩
  rw [List.range_add, List.findSome?_append, h]; rfl

/-- Fittings, as the reference tries them. -/
def fitB (sh feet ws : List Int) : Bool := decide (ws.length = feet.length) && ((feet.zip ws).all wearOk && (List.range 10).all fun s => decide ((cntW ws s : Int) ≤ shoe sh s))
theorem fitB_iff {sh feet ws : List Int} : fitB sh feet ws = true ↔ Fitting sh feet ws := by
  unfold fitB
  simp only [Bool.and_eq_true, decide_eq_true_eq, List.all_eq_true, List.mem_range]
  exact ⟨fun h => ⟨h.1, h.2.1, h.2.2⟩, fun h => ⟨h.n, h.ok, h.used⟩⟩
def bareI (ws : List Int) : Int := (ws.length : Int) - (served ws : Nat)
/-- The fewest that have none. -/
def bareV (sh feet : List Int) : Nat → List Int → Int
  | 0, ws => bareI ws
  | n + 1, ws => (([0, 1] : List Nat).filter fun d : Nat => decide (feet.getD ws.length 0 + (d : Int) < 10)).foldl (fun (b : Int) (d : Nat) => if fitB sh (feet.take (ws.length + 1)) (ws ++ [feet.getD ws.length 0 + (d : Int)]) = true then min b (bareV sh feet n (ws ++ [feet.getD ws.length 0 + (d : Int)])) else b) (bareV sh feet n (ws ++ [-1]))
theorem foldl_least (c : Nat → Prop) [DecidablePred c] (f : Nat → Int) : ∀ (xs : List Nat) (b : Int), xs.foldl (fun b x => if c x then min b (f x) else b) b ≤ b ∧ (∀ x ∈ xs, c x → xs.foldl (fun b x => if c x then min b (f x) else b) b ≤ f x) ∧
    (xs.foldl (fun b x => if c x then min b (f x) else b) b = b ∨ ∃ x ∈ xs, c x ∧ xs.foldl (fun b x => if c x then min b (f x) else b) b = f x)
  | [], b => ⟨Int.le_refl _, by simp, .inl rfl⟩
  | y :: xs, b => by
    obtain ⟨h1, h2, h3⟩ := foldl_least c f xs (if c y then min b (f y) else b)
    rw [List.foldl_cons]
    refine ⟨?_, fun x hx hc => ?_, ?_⟩
    · exact Int.le_trans h1 (by split <;> omega)
    · rcases List.mem_cons.1 hx with rfl | hx
      · exact Int.le_trans h1 (by rw [if_pos hc]; omega)
      · exact h2 x hx hc
    · rcases h3 with h3 | ⟨x, hx, hc, h3⟩
      · rw [h3]
        split
        · rename_i hc
          by_cases h : f y ≤ b
          · exact .inr ⟨y, by simp, hc, by omega⟩
          · exact .inl (by omega)
        · exact .inl rfl
      · exact .inr ⟨x, by simp [hx], hc, h3⟩
theorem bare_served {feet ws : List Int} (hn : ws.length = feet.length) (hok : ∀ z ∈ feet.zip ws, wearOk z = true) : bareI ws = (bare ws : Nat) := by
  unfold bareI bare cntW served
  have hw : ∀ w ∈ ws, w = -1 ∨ 0 ≤ w := fun w hw => by
    have : w ∈ (feet.zip ws).map (·.2) := by rw [List.map_snd_zip (by omega)]; exact hw
    obtain ⟨z, hz, rfl⟩ := List.mem_map.1 this
    have := hok z hz
    simp only [wearOk, Bool.or_eq_true, Bool.and_eq_true, decide_eq_true_eq, inI] at this
    omega
  have h1 := List.length_eq_countP_add_countP (p := fun n : Int => decide (0 ≤ n)) (l := ws)
  have h2 : ws.countP (fun a => decide (¬ decide (0 ≤ a) = true)) = ws.countP fun w => decide (w = -1) := List.countP_congr fun w hw' => by
    have := hw w hw'
    simp only [decide_eq_true_eq]; omega
  omega
structure ExtF (sh feet ws q : List Int) : Prop where
  pre : ws <+: q
  fit : Fitting sh feet q
theorem fit_pre {sh feet ws q : List Int} (h : ws <+: q) (hF : Fitting sh feet q) : Fitting sh (feet.take ws.length) ws := by
  obtain ⟨r, rfl⟩ := h
  have hn := hF.n
  rw [List.length_append] at hn
  have e : ∀ (a : List Int) (l : List Int) (b : List Int), ∀ z ∈ (l.take a.length).zip a, z ∈ l.zip (a ++ b) := by
    intro a
    induction a with
    | nil => intro l b z hz; simp at hz
    | cons x a ih =>
      intro l b z hz
      cases l with
      | nil => simp at hz
      | cons g l =>
        simp only [List.length_cons, List.take_succ_cons, List.zip_cons_cons, List.cons_append, List.mem_cons] at hz ⊢
        exact hz.imp id (ih l b z)
  refine ⟨by rw [List.length_take]; omega, fun z hz => hF.ok z (e ws feet r z hz), fun s hs => ?_⟩
  have := hF.used s hs
  unfold cntW at this ⊢
  rw [List.countP_append] at this
  omega
theorem fit_none {sh feet ws : List Int} (h : Fitting sh (feet.take ws.length) ws) (hl : ws.length < feet.length) : Fitting sh (feet.take (ws.length + 1)) (ws ++ [-1]) := by
  refine ⟨by rw [List.length_append, List.length_singleton, List.length_take]; omega, fun z hz => ?_, fun s hs => ?_⟩
  · rw [List.take_succ_eq_append_getElem hl, List.zip_append (by rw [List.length_take]; omega)] at hz
    rcases List.mem_append.1 hz with hz | hz
    · exact h.ok z hz
    · rw [List.mem_singleton.1 hz]
      simp [wearOk]
  · have := h.used s hs
    unfold cntW at this ⊢
    rw [List.countP_append, List.countP_singleton, if_neg (by simp)]
    omega
theorem bareV_spec (sh feet : List Int) (hf : ∀ f ∈ feet, 0 ≤ f ∧ f ≤ 9) : ∀ (n : Nat) (ws : List Int), ws.length + n = feet.length → Fitting sh (feet.take ws.length) ws →
    (∃ q, ExtF sh feet ws q ∧ (bare q : Int) = bareV sh feet n ws) ∧ ∀ q, ExtF sh feet ws q → bareV sh feet n ws ≤ (bare q : Int)
  | 0, ws, hl, hF => by
    have e : feet.take ws.length = feet := List.take_of_length_le (by omega)
    rw [e] at hF
    have hb : bareV sh feet 0 ws = (bare ws : Int) := bare_served hF.n hF.ok
    refine ⟨⟨ws, ⟨List.prefix_refl _, hF⟩, hb.symm⟩, fun q hq => ?_⟩
    have : ws = q := hq.pre.eq_of_length (by have := hq.fit.n; omega)
    rw [← this, hb]; exact Int.le_refl _
  | n + 1, ws, hl, hF => by
    have hlt : ws.length < feet.length := by omega
    have hget : feet.getD ws.length 0 = feet[ws.length] := by rw [List.getD_eq_getElem?_getD, List.getElem?_eq_getElem hlt]; rfl
    have hfs := hf _ (List.getElem_mem hlt)
    have hs : ∀ x, Fitting sh (feet.take (ws.length + 1)) (ws ++ [x]) → (∃ q, ExtF sh feet (ws ++ [x]) q ∧ (bare q : Int) = bareV sh feet n (ws ++ [x])) ∧ ∀ q, ExtF sh feet (ws ++ [x]) q → bareV sh feet n (ws ++ [x]) ≤ (bare q : Int) := fun x hx => by
      refine bareV_spec sh feet hf n (ws ++ [x]) (by rw [List.length_append, List.length_singleton]; omega) (by rw [List.length_append, List.length_singleton]; exact hx)
    have h0 := fit_none hF hlt
    obtain ⟨f1, f2, f3⟩ := foldl_least (fun d : Nat => fitB sh (feet.take (ws.length + 1)) (ws ++ [feet.getD ws.length 0 + (d : Int)]) = true) (fun d : Nat => bareV sh feet n (ws ++ [feet.getD ws.length 0 + (d : Int)])) (([0, 1] : List Nat).filter fun d : Nat => decide (feet.getD ws.length 0 + (d : Int) < 10)) (bareV sh feet n (ws ++ [-1]))
    have hm : bareV sh feet (n + 1) ws = (([0, 1] : List Nat).filter fun d : Nat => decide (feet.getD ws.length 0 + (d : Int) < 10)).foldl (fun (b : Int) (d : Nat) => if fitB sh (feet.take (ws.length + 1)) (ws ++ [feet.getD ws.length 0 + (d : Int)]) = true then min b (bareV sh feet n (ws ++ [feet.getD ws.length 0 + (d : Int)])) else b) (bareV sh feet n (ws ++ [-1])) := rfl
    rw [← hm] at f1 f2 f3
    have hup : ∀ x q, ExtF sh feet (ws ++ [x]) q → ExtF sh feet ws q := fun x q h => ⟨(List.prefix_append _ _).trans h.pre, h.fit⟩
    refine ⟨?_, fun q hq => ?_⟩
    · rcases f3 with f3 | ⟨x, hx, hc, f3⟩
      · obtain ⟨⟨q, hq, e⟩, _⟩ := hs (-1) h0
        exact ⟨q, hup _ q hq, by rw [f3, e]⟩
      · obtain ⟨⟨q, hq, e⟩, _⟩ := hs _ (fitB_iff.1 hc)
        exact ⟨q, hup _ q hq, by rw [f3, e]⟩
    · obtain ⟨r, hr⟩ := hq.pre
      have hqn := hq.fit.n
      cases r with
      | nil => rw [← hr] at hqn; simp at hqn; omega
      | cons x r =>
        have hp : ws ++ [x] <+: q := ⟨r, by rw [← hr]; simp⟩
        have hE : ExtF sh feet (ws ++ [x]) q := ⟨hp, hq.fit⟩
        have hr2 := fit_pre hp hq.fit
        rw [List.length_append, List.length_singleton] at hr2
        have h3 := (hs x hr2).2 q hE
        by_cases e : x = -1
        · subst e; omega
        · have hz : (feet[ws.length], x) ∈ (feet.take (ws.length + 1)).zip (ws ++ [x]) := by
            rw [List.take_succ_eq_append_getElem hlt, List.zip_append (by rw [List.length_take]; omega)]; simp
          have hw := hr2.ok _ hz
          simp only [wearOk, Bool.or_eq_true, Bool.and_eq_true, decide_eq_true_eq, inI] at hw
          have hw := hw.resolve_left e
          have hd : ∃ d : Nat, d ∈ ([0, 1] : List Nat).filter (fun d : Nat => decide (feet.getD ws.length 0 + (d : Int) < 10)) ∧ x = feet.getD ws.length 0 + (d : Int) := by
            rcases hw.2 with e2 | e2
            · exact ⟨0, List.mem_filter.2 ⟨by simp, decide_eq_true (by omega)⟩, by omega⟩
            · exact ⟨1, List.mem_filter.2 ⟨by simp, decide_eq_true (by omega)⟩, by omega⟩
          obtain ⟨d, hd, rfl⟩ := hd
          have h4 := f2 d hd (fitB_iff.2 hr2)
          omega
theorem barest_eq {sh feet ws : List Int} (hn : sh.length = 10) (h0 : ∀ x ∈ sh, 0 ≤ x) (hf : ∀ f ∈ feet, 0 ≤ f ∧ f ≤ 9) (h : FitFacts sh feet ws) : bareV sh feet feet.length [] = (bare ws : Nat) := by
  have hF0 : Fitting sh (feet.take 0) [] := ⟨by simp, by simp, fun s hs => by
    unfold cntW shoe
    have hlt : s < sh.length := by omega
    rw [Int.toNat_natCast, List.getD_eq_getElem?_getD, List.getElem?_eq_getElem hlt]
    exact h0 _ (List.getElem_mem hlt)⟩
  obtain ⟨⟨q, hq, e⟩, h2⟩ := bareV_spec sh feet hf feet.length [] (by simp) hF0
  have h3 := h2 ws ⟨List.nil_prefix, h.fit⟩
  have h4 := sizes_lack h hf (S := baresL feet ws) fun _ => Iff.rfl
  have h5 := lack_le hq.fit (roundsR (feet.zip ws) (baresL feet ws) 10)
  omega

/-- The choice of sizes that bits tell. -/
def sizesB (bits : Nat) : List Int := ((List.range 10).filter fun s => bits.testBit s).map fun s : Nat => (s : Int)
def lacksV (sh feet : List Int) : Nat → Int
  | 0 => 0
  | n + 1 => max (lacksV sh feet n) (lack sh feet (sizesB n))
theorem lacksV_le {sh feet : List Int} : ∀ {n b : Nat}, b < n → lack sh feet (sizesB b) ≤ lacksV sh feet n
  | n + 1, b, h => by
    unfold lacksV
    by_cases e : b = n
    · subst e; omega
    · have := lacksV_le (sh := sh) (feet := feet) (n := n) (b := b) (by omega); omega
theorem lacksV_mem {sh feet : List Int} : ∀ (n : Nat), lacksV sh feet n = 0 ∨ ∃ b, lacksV sh feet n = lack sh feet (sizesB b)
  | 0 => .inl rfl
  | n + 1 => by
    unfold lacksV
    by_cases h : lacksV sh feet n ≤ lack sh feet (sizesB n)
    · exact .inr ⟨n, by omega⟩
    · rcases lacksV_mem (sh := sh) (feet := feet) n with e | ⟨b, e⟩
      · exact .inl (by omega)
      · exact .inr ⟨b, by omega⟩
theorem lack_congr {sh feet S S' : List Int} (h : ∀ x, 0 ≤ x → x ≤ 9 → (x ∈ S ↔ x ∈ S')) (hn : (-1 ∈ S ↔ -1 ∈ S')) (hf : ∀ f ∈ feet, 0 ≤ f ∧ f ≤ 9) : lack sh feet S = lack sh feet S' := by
  unfold lack lackI
  have h1 : (feet.countP fun f => decide (f ∈ S)) = feet.countP fun f => decide (f ∈ S') := List.countP_congr fun f hf' => by
    have := hf f hf'
    simp only [decide_eq_true_eq]; exact h f this.1 this.2
  have h2 : sumC (nbr S) (shoe sh) 10 = sumC (nbr S') (shoe sh) 10 := by
    have : ∀ n : Nat, n ≤ 10 → sumC (nbr S) (shoe sh) n = sumC (nbr S') (shoe sh) n := by
      intro n
      induction n with
      | zero => intro _; rfl
      | succ n ih =>
        intro hn2
        unfold sumC
        rw [ih (by omega)]
        have e : nbr S n = nbr S' n := by
          unfold nbr
          rw [decide_eq_decide, h n (by omega) (by omega)]
          by_cases e0 : n = 0
          · subst e0; rw [show ((0 : Nat) : Int) - 1 = -1 by omega, hn]
          · rw [h (n - 1) (by omega) (by omega)]
        rw [e]
    exact this 10 (Nat.le_refl _)
  rw [h1, h2]
/-- The number whose bits tell some sizes. -/
def bitsOf (S : List Int) : Nat → Nat
  | 0 => 0
  | n + 1 => bitsOf S n + if (n : Int) ∈ S then 2 ^ n else 0
theorem bitsOf_lt (S : List Int) : ∀ n, bitsOf S n < 2 ^ n
  | 0 => by simp [bitsOf]
  | n + 1 => by
    have := bitsOf_lt S n
    unfold bitsOf
    rw [Nat.pow_succ]
    split <;> omega
theorem bitsOf_test (S : List Int) : ∀ (n s : Nat), s < n → (bitsOf S n).testBit s = decide ((s : Int) ∈ S)
  | n + 1, s, h => by
    have hlt := bitsOf_lt S n
    unfold bitsOf
    by_cases hm : (n : Int) ∈ S
    · rw [if_pos hm, Nat.add_comm]
      by_cases e : s = n
      · subst e
        rw [Nat.testBit_two_pow_add_eq, Nat.testBit_lt_two_pow hlt]; simp [hm]
      · rw [Nat.testBit_two_pow_add_gt (by omega)]; exact bitsOf_test S n s (by omega)
    · rw [if_neg hm, Nat.add_zero]
      by_cases e : s = n
      · subst e
        rw [Nat.testBit_lt_two_pow hlt]; simp [hm]
      · exact bitsOf_test S n s (by omega)
theorem mem_sizesB {S : List Int} {x : Int} : x ∈ sizesB (bitsOf S 10) ↔ 0 ≤ x ∧ x ≤ 9 ∧ x ∈ S := by
  unfold sizesB
  rw [List.mem_map]
  constructor
  · rintro ⟨s, hs, rfl⟩
    obtain ⟨h1, h2⟩ := List.mem_filter.1 hs
    have h1 := List.mem_range.1 h1
    rw [bitsOf_test S 10 s h1] at h2
    exact ⟨by omega, by omega, of_decide_eq_true h2⟩
  · rintro ⟨h1, h2, h3⟩
    refine ⟨x.toNat, List.mem_filter.2 ⟨List.mem_range.2 (by omega), ?_⟩, by omega⟩
    rw [bitsOf_test S 10 _ (by omega), show ((x.toNat : Nat) : Int) = x by omega]
    exact decide_eq_true h3
/-- Feet lack just if some sizes do. -/
theorem lacks_eq {sh feet ws : List Int} (hf : ∀ f ∈ feet, 0 ≤ f ∧ f ≤ 9) (h : FitFacts sh feet ws) : lacksV sh feet 1024 = (bare ws : Nat) := by
  have h4 := sizes_lack h hf (S := baresL feet ws) fun _ => Iff.rfl
  have h5 : lack sh feet (sizesB (bitsOf (roundsR (feet.zip ws) (baresL feet ws) 10) 10)) = (bare ws : Nat) := by
    rw [← h4.1]
    refine lack_congr (fun x h0 h9 => ?_) ?_ hf
    · rw [mem_sizesB]; exact ⟨fun q => q.2.2, fun q => ⟨h0, h9, q⟩⟩
    · rw [mem_sizesB]; exact ⟨fun q => q.2.2, fun q => by have := h4.2 _ q; omega⟩
  have h6 := lacksV_le (sh := sh) (feet := feet) (n := 1024) (b := bitsOf (roundsR (feet.zip ws) (baresL feet ws) 10) 10) (by have := bitsOf_lt (roundsR (feet.zip ws) (baresL feet ws) 10) 10; omega)
  rcases lacksV_mem (sh := sh) (feet := feet) 1024 with e | ⟨b, e⟩
  · omega
  · have := lack_le h.fit (sizesB b); omega
end Go.Proofs.Ythpkgabckklojaa.En

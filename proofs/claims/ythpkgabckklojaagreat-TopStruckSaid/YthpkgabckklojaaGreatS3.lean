/- Own texts, laid together: Spec J10 J13 J14 J15 J16 J11 J12 J17 J18 J19 J20 J21 J22 J23 J24 J25. Nothing is asked. -/
import Derived.Test.YthpkgabckklojaaGreatS1
import Derived.Test.YthpkgabckklojaaGreatS2
import Derived.Laws.MakeOwn
import Derived.Laws.OwnMore
set_option linter.unusedSimpArgs false
set_option linter.unusedVariables false
/- Plain functions on balls, lanes and pockets: what the walks say the Go functions compute. No program stands here. -/
namespace Go.Proofs.YthpkgabckklojaaGreat
open Go.RowKit

structure Rg where
  lo : Int
  hi : Int
  deriving DecidableEq
structure Pa where
  rows : Rg
  boards : Rg
  level : Int
  deriving DecidableEq
structure La where
  boards : Int
  rows : Int
  hooks : List Rg
  patches : List Pa
  deriving DecidableEq
structure St where
  b : Int
  d : Int
  deriving DecidableEq
structure Pk where
  boards : Rg
  dirs : Rg
  deriving DecidableEq
instance : Inhabited Rg := ⟨⟨0, 0⟩⟩
instance : Inhabited St := ⟨⟨0, 0⟩⟩
instance : Inhabited Pa := ⟨⟨default, default, 0⟩⟩

def encRg (r : Rg) : List Value := [I r.lo, I r.hi]
theorem encRg_len (r : Rg) : (encRg r).length = 2 := rfl
def encPa (p : Pa) : List Value := [I p.rows.lo, I p.rows.hi, I p.boards.lo, I p.boards.hi, I p.level]
theorem encPa_len (p : Pa) : (encPa p).length = 5 := rfl
def encSt (s : St) : List Value := [I s.b, I s.d]
theorem encSt_len (s : St) : (encSt s).length = 2 := rfl
def encI (n : Int) : List Value := [I n]
theorem encI_len (n : Int) : (encI n).length = 1 := rfl

/-- Is a number in a range? -/
def inR (n : Int) (r : Rg) : Bool := decide (r.lo ≤ n ∧ n ≤ r.hi)
def okRg (r : Rg) (lo hi : Int) : Bool := decide (lo ≤ r.lo ∧ r.lo ≤ r.hi ∧ r.hi ≤ hi)
def okPa (l : La) (p : Pa) : Bool := okRg p.rows 0 (l.rows - 1) && okRg p.boards 1 l.boards && decide (0 ≤ p.level ∧ p.level ≤ (l.hooks.length : Int) - 1)

/-- The error of a lane. -/
def fault (l : La) : Int :=
  if 8 < l.patches.length ∨ 4 < l.hooks.length then 3 else
  if ¬ (1 ≤ l.boards ∧ l.boards ≤ 40) ∨ ¬ (1 ≤ l.rows ∧ l.rows ≤ 12) ∨ l.hooks.length = 0 then 1 else
  if l.hooks.all (fun h => okRg h (-3) 3) = false then 1 else
  if l.patches.all (okPa l) = false then 1 else 0

structure Valid (l : La) : Prop where
  np : l.patches.length ≤ 8
  nh : l.hooks.length ≤ 4
  b1 : 1 ≤ l.boards
  b2 : l.boards ≤ 40
  r1 : 1 ≤ l.rows
  r2 : l.rows ≤ 12
  h0 : 0 < l.hooks.length
  hk : ∀ h ∈ l.hooks, -3 ≤ h.lo ∧ h.lo ≤ h.hi ∧ h.hi ≤ 3
  pk : ∀ p ∈ l.patches, (0 ≤ p.rows.lo ∧ p.rows.lo ≤ p.rows.hi ∧ p.rows.hi ≤ l.rows - 1) ∧ (1 ≤ p.boards.lo ∧ p.boards.lo ≤ p.boards.hi ∧ p.boards.hi ≤ l.boards) ∧ 0 ≤ p.level ∧ p.level ≤ (l.hooks.length : Int) - 1

theorem fault_valid {l : La} (h : fault l = 0) : Valid l := by
  unfold fault at h
  split at h
  · omega
  · split at h
    · omega
    · split at h
      · omega
      · split at h
        · omega
        · rename_i h1 h2 h3 h4
          simp only [Bool.not_eq_false, List.all_eq_true] at h3 h4
          refine ⟨by omega, by omega, by omega, by omega, by omega, by omega, by omega, fun x hx => by simpa [okRg] using h3 x hx, fun x hx => ?_⟩
          have := h4 x hx
          simp [okPa, okRg] at this
          omega

theorem valid_fault {l : La} (h : Valid l) : fault l = 0 := by
  obtain ⟨h1, h2, h3, h4, h5, h6, h7, h8, h9⟩ := h
  unfold fault
  rw [if_neg (by omega), if_neg (by omega), if_neg, if_neg]
  · simp only [Bool.not_eq_false, List.all_eq_true]
    intro x hx
    have := h9 x hx
    simp [okPa, okRg]
    omega
  · simp only [Bool.not_eq_false, List.all_eq_true]
    intro x hx
    have := h8 x hx
    simp [okRg]
    omega

def isStart (l : La) (s : St) : Bool := decide (1 ≤ s.b ∧ s.b ≤ l.boards ∧ -5 ≤ s.d ∧ s.d ≤ 5)
def isPocket (p : Pk) : Bool := decide (p.boards.lo ≤ p.boards.hi ∧ p.dirs.lo ≤ p.dirs.hi)
def onL (l : La) (s : St) : Bool := decide (1 ≤ s.b ∧ s.b ≤ l.boards)

/-- The level of a board in a row, of the patches told so far; the hooks. -/
def levelOf (ps : List Pa) (row board : Int) : Int :=
  ps.foldl (fun lv p => if inR row p.rows && inR board p.boards then p.level else lv) 0
def hookOf (l : La) (row board : Int) : Rg := l.hooks.getD (levelOf l.patches row board).toNat default
def clamp (n : Int) : Int := max (-5) (min 5 n)
def nextS (s : St) (t : Int) : St := ⟨s.b + clamp (s.d + t), clamp (s.d + t)⟩

def verdict (n m : Int) : Int := if n = 0 then 0 else if n = m then 2 else 1
def lessS (s t : St) : Bool := decide (s.b < t.b ∨ s.b = t.b ∧ s.d < t.d)

theorem clamp_bd (n : Int) : -5 ≤ clamp n ∧ clamp n ≤ 5 := by unfold clamp; omega

theorem levelOf_snoc (ps : List Pa) (p : Pa) (row board : Int) : levelOf (ps ++ [p]) row board = if inR row p.rows && inR board p.boards then p.level else levelOf ps row board := by
  unfold levelOf; rw [List.foldl_append]; rfl

theorem levelOf_bd {l : La} (h : Valid l) (row board : Int) : 0 ≤ levelOf l.patches row board ∧ levelOf l.patches row board ≤ (l.hooks.length : Int) - 1 := by
  have key : ∀ (ps : List Pa) (a : Int), (0 ≤ a ∧ a ≤ (l.hooks.length : Int) - 1) → (∀ p ∈ ps, 0 ≤ p.level ∧ p.level ≤ (l.hooks.length : Int) - 1) →
      0 ≤ ps.foldl (fun lv p => if inR row p.rows && inR board p.boards then p.level else lv) a ∧ ps.foldl (fun lv p => if inR row p.rows && inR board p.boards then p.level else lv) a ≤ (l.hooks.length : Int) - 1 := by
    intro ps
    induction ps with
    | nil => intro a ha _; exact ha
    | cons p ps ih =>
      intro a ha hp
      rw [List.foldl_cons]
      refine ih _ ?_ (fun q hq => hp q (by simp [hq]))
      split
      · exact hp p (by simp)
      · exact ha
  refine key l.patches 0 ⟨by omega, ?_⟩ (fun p hp => (h.pk p hp).2.2)
  have := h.h0
  omega

theorem hookOf_mem {l : La} (h : Valid l) (row board : Int) : hookOf l row board ∈ l.hooks := by
  have := levelOf_bd h row board
  unfold hookOf
  rw [List.getD_eq_getElem?_getD, List.getElem?_eq_getElem (by omega)]
  simp

theorem hookOf_bd {l : La} (h : Valid l) (row board : Int) : -3 ≤ (hookOf l row board).lo ∧ (hookOf l row board).lo ≤ (hookOf l row board).hi ∧ (hookOf l row board).hi ≤ 3 := h.hk _ (hookOf_mem h row board)

/-- The levels, while a patch is being laid: up to (r, c). -/
def painted (ps : List Pa) (p : Pa) (r c : Int) (row board : Int) : Int :=
  if inR row p.rows && inR board p.boards && decide (row < r ∨ row = r ∧ board < c) then p.level else levelOf ps row board
theorem painted_start (ps : List Pa) (p : Pa) (row board : Int) : painted ps p p.rows.lo p.boards.lo row board = levelOf ps row board := by
  unfold painted; rw [if_neg]; simp [inR]; omega
theorem painted_row (ps : List Pa) (p : Pa) (r c : Int) (hc : c = p.boards.hi + 1) (row board : Int) : painted ps p r c row board = painted ps p (r + 1) p.boards.lo row board := by
  unfold painted
  have : (inR row p.rows && inR board p.boards && decide (row < r ∨ row = r ∧ board < c)) = (inR row p.rows && inR board p.boards && decide (row < r + 1 ∨ row = r + 1 ∧ board < p.boards.lo)) := by
    rw [Bool.eq_iff_iff]; simp [inR]; omega
  rw [this]
theorem painted_end (ps : List Pa) (p : Pa) (r c : Int) (hr : r = p.rows.hi + 1) (row board : Int) : painted ps p r c row board = levelOf (ps ++ [p]) row board := by
  rw [levelOf_snoc]
  unfold painted
  have : (inR row p.rows && inR board p.boards && decide (row < r ∨ row = r ∧ board < c)) = (inR row p.rows && inR board p.boards) := by
    rw [Bool.eq_iff_iff]; simp [inR]; omega
  rw [this]
theorem painted_step (ps : List Pa) (p : Pa) (r c : Int) (h1 : inR r p.rows = true) (h2 : inR c p.boards = true) (row board : Int) :
    painted ps p r (c + 1) row board = if row = r ∧ board = c then p.level else painted ps p r c row board := by
  unfold painted
  simp [inR] at h1 h2
  by_cases h : row = r ∧ board = c
  · rw [if_pos h, if_pos]; simp [inR]; omega
  · rw [if_neg h]
    have : (inR row p.rows && inR board p.boards && decide (row < r ∨ row = r ∧ board < c + 1)) = (inR row p.rows && inR board p.boards && decide (row < r ∨ row = r ∧ board < c)) := by
      rw [Bool.eq_iff_iff]; simp [inR]; omega
    rw [this]

/-- A grid of 41 numbers a row, in cells. -/
def GridOf (cs : List Value) (R : Nat) (f : Int → Int → Int) : Prop := cs.length = R * 41 ∧ ∀ r c : Nat, r < R → c < 41 → cs[r * 41 + c]? = some (I (f r c))
theorem GridOf.congr {cs : List Value} {R : Nat} {f g : Int → Int → Int} (h : GridOf cs R f) (e : ∀ row board, f row board = g row board) : GridOf cs R g :=
  ⟨h.1, fun r c hr hc => by rw [h.2 r c hr hc, e]⟩
theorem GridOf.zero (R : Nat) : GridOf (List.replicate (R * 41) (I 0)) R (levelOf []) :=
  ⟨by simp, fun r c hr hc => by rw [List.getElem?_replicate, if_pos (by omega)]; rfl⟩
theorem GridOf.set {cs : List Value} {R : Nat} {f : Int → Int → Int} (h : GridOf cs R f) (r c : Nat) (hr : r < R) (hc : c < 41) (v : Int) :
    GridOf (cs.set (r * 41 + c) (I v)) R (fun row board => if row = r ∧ board = c then v else f row board) := by
  refine ⟨by rw [List.length_set]; exact h.1, fun r' c' hr' hc' => ?_⟩
  rw [List.getElem?_set]
  by_cases e : r' = r ∧ c' = c
  · obtain ⟨rfl, rfl⟩ := e
    rw [if_pos rfl, if_pos (by rw [h.1]; omega)]
    simp
  · rw [if_neg (by omega), h.2 r' c' hr' hc']
    simp only
    rw [if_neg (by omega)]

/-- The error of a lane with a start. -/
def startErr (l : La) (s : St) : Int := if fault l ≠ 0 then fault l else if isStart l s then 0 else 2

end Go.Proofs.YthpkgabckklojaaGreat

/- Loops and cuts by what they turn: all other slots and pieces stay. Nothing is asked. -/
namespace Go.Proofs.YthpkgabckklojaaGreat
open Go.RowKit Go.Shelf

/-- The slots of a state. -/
def keysOf : Sto → List Nat
  | [] => []
  | (k, _) :: l => k :: keysOf l
def memB (k : Nat) : List Nat → Bool
  | [] => false
  | j :: l => bif Nat.beq k j then true else memB k l
/-- What was put since turns no slot of the elder state, but for those that are told anew. -/
def apart (pre ov st0 : List Nat) : Bool := match pre with
  | [] => true
  | k :: l => (memB k ov || !memB k st0) && apart l ov st0
theorem look_none {st : Sto} {t : Nat} (h : memB t (keysOf st) = false) : look st t = none := by
  induction st with
  | nil => rfl
  | cons p l ih =>
    obtain ⟨k, v⟩ := p
    simp only [keysOf, memB] at h
    cases e : Nat.beq t k
    · rw [e] at h
      have e2 : Nat.beq k t = false := by
        cases q : Nat.beq k t
        · rfl
        · rw [Nat.eq_of_beq_eq_true q] at e; simp at e
      simp only [look, e2, cond_false]
      exact ih h
    · rw [e] at h; cases h
theorem look_append (a b : Sto) (t : Nat) : look (a ++ b) t = (look a t).or (look b t) := by
  induction a with
  | nil => rfl
  | cons p l ih =>
    obtain ⟨k, v⟩ := p
    simp only [List.cons_append, look]
    cases Nat.beq k t
    · exact ih
    · rfl
theorem memB_look {st : Sto} {t : Nat} (h : memB t (keysOf st) = true) : ∃ v, look st t = some v := by
  induction st with
  | nil => cases h
  | cons p l ih =>
    obtain ⟨k, v⟩ := p
    simp only [keysOf, memB] at h
    cases e : Nat.beq t k
    · rw [e] at h
      obtain ⟨u, hu⟩ := ih h
      have e2 : Nat.beq k t = false := by
        cases q : Nat.beq k t
        · rfl
        · rw [Nat.eq_of_beq_eq_true q] at e; simp at e
      exact ⟨u, by simp only [look, e2, cond_false]; exact hu⟩
    · have : k = t := (Nat.eq_of_beq_eq_true e).symm
      subst this
      exact ⟨v, by simp [look]⟩
/-- The elder state stands at the end. -/
class Tail (st st0 : Sto) (pre : outParam Sto) : Prop where
  eq : st = pre ++ st0
instance (st : Sto) : Tail st st [] := ⟨rfl⟩
instance (st st0 pre : Sto) (x : Nat × Value) [h : Tail st st0 pre] : Tail (x :: st) st0 (x :: pre) := ⟨by rw [h.eq]; rfl⟩
instance (a b st0 pre : Sto) [h : Tail b st0 pre] : Tail (a ++ b) st0 (a ++ pre) := ⟨by rw [List.append_assoc, ← h.eq]⟩
instance (d : Option Nat) (v : Value) (st st0 pre : Sto) [h : Tail st st0 pre] : Tail (putSt d v st) st0 (putSt d v [] ++ pre) := ⟨by cases d <;> (simp only [putSt]; rw [h.eq]; rfl)⟩
theorem stsub_over {st st0 pre ov : Sto} [ht : Tail st st0 pre] (hk : apart (keysOf pre) (keysOf ov) (keysOf st0) = true) (h : StSub st ov) : StSub st (ov ++ st0) := by
  intro t v hv
  rw [look_append] at hv
  cases ho : look ov t with
  | some u => rw [ho] at hv; simp at hv; subst hv; exact h t u ho
  | none =>
    rw [ho] at hv
    simp at hv
    have hno : memB t (keysOf pre) = false := by
      have key : ∀ l : List Nat, apart l (keysOf ov) (keysOf st0) = true → memB t l = false := by
        intro l
        induction l with
        | nil => intro _; rfl
        | cons k l ih =>
          intro hl
          simp only [apart, Bool.and_eq_true, Bool.or_eq_true, Bool.not_eq_true'] at hl
          simp only [memB]
          cases e : Nat.beq t k
          · simpa using ih hl.2
          · exfalso
            have : k = t := (Nat.eq_of_beq_eq_true e).symm
            subst this
            rcases hl.1 with h1 | h1
            · obtain ⟨u, hu⟩ := memB_look h1; rw [ho] at hu; cases hu
            · rw [look_none h1] at hv; cases hv
      exact key _ hk
    rw [ht.eq, look_append, look_none hno]
    simpa using hv

/-- Some pieces are taken out, the others stay. -/
def HTake (H L D : List Chunk) : Prop := H.Perm (L ++ D)
section
variable {H H' L D : List Chunk}
theorem ht_nil : HTake H [] H := List.Perm.refl _
theorem ht_cons {c : Chunk} [h : Pick H c H'] (h2 : HTake H' L D) : HTake H (c :: L) D := h.perm.trans (List.Perm.cons c h2)
theorem ht_conse {c c' : Chunk} [h : Pick H c H'] (e : c = c') (h2 : HTake H' L D) : HTake H (c' :: L) D := by subst e; exact ht_cons h2
theorem ht_ow {v : Value} {T z n n' : Nat} {xs xs' : List Value} [h : OwnAt H v T z n xs H'] (e : n = n') (e' : xs = xs') (h2 : HTake H' L D) : HTake H (ow v T z n' xs' :: L) D := by
  obtain ⟨A, B, h3, h4⟩ := h.ex
  subst e e' h3 h4
  exact List.perm_middle.trans (List.Perm.cons _ h2)
theorem ht_bx {b : Nat} {cs cs' : List Value} [h : BoxPick H b cs H'] (e : cs = cs') (h2 : HTake H' L D) : HTake H (bx b cs' :: L) D := by
  subst e; exact h.perm.trans (List.Perm.cons _ h2)
class MapPick {κ ν : Type} (H : List Chunk) (b : Nat) (ek : κ → Value) (ev : ν → Value) (m : outParam (κ → Option ν)) (H' : outParam (List Chunk)) : Prop where
  perm : H.Perm (mp b ek ev m :: H')
instance {κ ν : Type} (H : List Chunk) (b : Nat) (ek : κ → Value) (ev : ν → Value) (m : κ → Option ν) : MapPick (mp b ek ev m :: H) b ek ev m H := ⟨List.Perm.refl _⟩
instance {κ ν : Type} (H H' : List Chunk) (b : Nat) (ek : κ → Value) (ev : ν → Value) (m : κ → Option ν) (c : Chunk) [h : MapPick H b ek ev m H'] : MapPick (c :: H) b ek ev m (c :: H') := ⟨(h.perm.cons c).trans (List.Perm.swap _ _ _)⟩
theorem ht_mp {κ ν : Type} {b : Nat} {ek : κ → Value} {ev : ν → Value} {m m' : κ → Option ν} [h : MapPick H b ek ev m H'] (e : m = m') (h2 : HTake H' L D) : HTake H (mp b ek ev m' :: L) D := by
  subst e; exact h.perm.trans (List.Perm.cons _ h2)
/-- What stays is there still. -/
class HIn (H L : List Chunk) : Prop where
  sub : HSub H L
instance (H : List Chunk) : HIn H H := ⟨hsub_refl⟩
instance (H : List Chunk) : HIn H [] := ⟨hsub_nil⟩
instance (H H' L : List Chunk) (c : Chunk) [h : Pick H c H'] [h2 : HIn H' L] : HIn H (c :: L) := ⟨hsub_cons h2.sub⟩
instance (H L : List Chunk) [h : HIn H L] : HIn H ([] ++ L) := ⟨h.sub⟩
instance (H A L : List Chunk) (c : Chunk) [h : HIn H (c :: (A ++ L))] : HIn H ((c :: A) ++ L) := ⟨h.sub⟩
theorem ht_sub {D' : List Chunk} (h : HTake H L D') [h2 : HIn D' D] : HSub H (L ++ D) := by
  obtain ⟨E, hE⟩ := h2.sub
  exact ⟨E, by have h : H.Perm (L ++ D') := h; refine h.trans ?_; rw [List.append_assoc]; exact List.Perm.append_left L hE⟩
theorem ht_in (h : HTake H L D) : HSub H (L ++ D) := ⟨[], by simpa using (show H.Perm (L ++ D) from h)⟩
end

section
variable {X : Ctx} {P : Program} {st : Sto} {H D : List Chunk} {R : World → Prop} {k : Kont}
theorem JC_condT {c : Operand} {x y : Code} {b : Bool} (hc : opnd st c = some (.bool b)) (h : b = true) (ht : JC X P x k st H R) : JC X P (.cond c x y) k st H R := JC_cond hc (fun _ => ht) (fun e => by rw [h] at e; cases e)
theorem JC_condF {c : Operand} {x y : Code} {b : Bool} (hc : opnd st c = some (.bool b)) (h : b = false) (hf : JC X P y k st H R) : JC X P (.cond c x y) k st H R := JC_cond hc (fun e => by rw [h] at e; cases e) (fun _ => hf)
/-- A loop by the slots and the pieces that it turns. -/
theorem JC_loopF {γ : Type} {body : Code} (I : γ → Prop) (ov : γ → Sto) (Hv : γ → List Chunk) (μ : γ → Nat) (g0 : γ) (hI : I g0) (hs : StSub st (ov g0)) (hH : HTake H (Hv g0) D)
    (round : ∀ g, I g → ∀ K : Act → World → Prop, (∀ g', I g' → μ g' < μ g → ∀ a w, Ok X (ov g' ++ st) (Hv g' ++ D) R a w → K a w) → JC X P body (.thenP K k) (ov g ++ st) (Hv g ++ D) R) : JC X P (.loop body) k st H R :=
  JC_loop I (fun g => ov g ++ st) (fun g => Hv g ++ D) (fun _ => R) μ g0 hI (stsub_over (pre := []) rfl hs) (ht_in hH) (fun _ h => h) round
/-- .. that also knows something by the round. -/
theorem JC_loopK {γ : Type} {body : Code} (I : γ → Prop) (ov : γ → Sto) (Hv : γ → List Chunk) (Kn : γ → World → Prop) (μ : γ → Nat) (g0 : γ) (hI : I g0) (hs : StSub st (ov g0)) (hH : HTake H (Hv g0) D) (hR : ∀ w, R w → Kn g0 w)
    (round : ∀ g, I g → ∀ K : Act → World → Prop, (∀ g', I g' → μ g' < μ g → ∀ a w, Ok X (ov g' ++ st) (Hv g' ++ D) (KAnd (Kn g') R) a w → K a w) → JC X P body (.thenP K k) (ov g ++ st) (Hv g ++ D) (KAnd (Kn g) R)) : JC X P (.loop body) k st H R :=
  JC_loop I (fun g => ov g ++ st) (fun g => Hv g ++ D) (fun g => KAnd (Kn g) R) μ g0 hI (stsub_over (pre := []) rfl hs) (ht_in hH) (fun w h => ⟨hR w h, h⟩) round
theorem JE_roundF {γ : Type} {I : γ → Prop} {st0 pre : Sto} {ov : γ → Sto} {Hv : γ → List Chunk} {R' : γ → World → Prop} {μ : γ → Nat} {g : γ} {K : Act → World → Prop} {D0 D' : List Chunk}
    (hK : ∀ g', I g' → μ g' < μ g → ∀ a w, Ok X (ov g' ++ st0) (Hv g' ++ D0) (R' g') a w → K a w)
    (g' : γ) (hI : I g') (hlt : μ g' < μ g) (hs : StSub st (ov g')) (hH : HTake H (Hv g') D') [ht : Tail st st0 pre] [hd : HIn D' D0] [hR : Knows R (R' g')] (hk : apart (keysOf pre) (keysOf (ov g')) (keysOf st0) = true := by kernel_rfl) : JE X P .normal (.thenP K k) st H R :=
  fun a w ho => hK g' hI hlt a w (ho.weak (stsub_over hk hs) (ht_sub hH) hR.know)
/-- A cut by the slots and the pieces that were turned. -/
theorem JC_cutF {γ : Type} {c1 c2 : Code} (I : γ → Prop) (ov : γ → Sto) (Hv : γ → List Chunk) (D0 : List Chunk)
    (h1 : ∀ K : Act → World → Prop, (∀ g, I g → ∀ a w, Ok X (ov g ++ st) (Hv g ++ D0) R a w → K a w) → JC X P c1 (.thenP K k) st H R)
    (h2 : ∀ g, I g → JC X P c2 k (ov g ++ st) (Hv g ++ D0) R) : JC X P c1 (.seq c2 k) st H R :=
  fun a w ho => h1 _ (fun g hg a w ho => h2 g hg a w ho) a w ho
/-- .. where nothing was turned, and some pieces are new. -/
theorem JC_cutN {γ : Type} {c1 c2 : Code} (I : γ → Prop) (ov : γ → Sto) (Hv : γ → List Chunk)
    (h1 : ∀ K : Act → World → Prop, (∀ g, I g → ∀ a w, Ok X (ov g ++ st) (Hv g ++ H) R a w → K a w) → JC X P c1 (.thenP K k) st H R)
    (h2 : ∀ g, I g → JC X P c2 k (ov g ++ st) (Hv g ++ H) R) : JC X P c1 (.seq c2 k) st H R :=
  fun a w ho => h1 _ (fun g hg a w ho => h2 g hg a w ho) a w ho
theorem JE_cutF {γ : Type} {I : γ → Prop} {st0 pre : Sto} {ov : γ → Sto} {Hv : γ → List Chunk} {R0 : World → Prop} {K : Act → World → Prop} {D0 D' : List Chunk} (hK : ∀ g, I g → ∀ a w, Ok X (ov g ++ st0) (Hv g ++ D0) R0 a w → K a w)
    (g : γ) (hI : I g) (hs : StSub st (ov g)) (hH : HTake H (Hv g) D') [ht : Tail st st0 pre] [hd : HIn D' D0] [hR : Knows R R0] (hk : apart (keysOf pre) (keysOf (ov g)) (keysOf st0) = true := by kernel_rfl) : JE X P .normal (.thenP K k) st H R :=
  fun a w ho => hK g hI a w (ho.weak (stsub_over hk hs) (ht_sub hH) hR.know)
end
section
variable {X : Ctx} {P : Program} {st : Sto} {H : List Chunk} {R : World → Prop} {ops : Array Oper} {rest : List Oper} {Q : Exit → Act → World → Prop}
/-- Ways part by guards, and meet again some operations on. -/
theorem JL_join (k : Nat) (ov : Sto) (h1 : (∀ {st1 pre : Sto} {H1 : List Chunk} {R1 : World → Prop} [Tail st1 st pre] [HIn H1 H] [Knows R1 R], apart (keysOf pre) (keysOf ov) (keysOf st) = true → StSub st1 ov → JL X P ops Q (rest.drop k) st1 H1 R1) → JL X P ops Q rest st H R)
    (h2 : JL X P ops Q (rest.drop k) (ov ++ st) H R) : JL X P ops Q rest st H R :=
  h1 fun {_ _ _ _} ht hi hk ha hs => JL_weak (stsub_over ha hs) hi.sub hk.know h2
theorem JL_join1 (k : Nat) (t1 : Nat) (v1 : Value) (h1 : (∀ {st1 pre : Sto} {H1 : List Chunk} {R1 : World → Prop} [Tail st1 st pre] [HIn H1 H] [Knows R1 R], apart (keysOf pre) (keysOf [(t1, v1)]) (keysOf st) = true → StSub st1 [(t1, v1)] → JL X P ops Q (rest.drop k) st1 H1 R1) → JL X P ops Q rest st H R)
    (h2 : JL X P ops Q (rest.drop k) ((t1, v1) :: st) H R) : JL X P ops Q rest st H R := JL_join k [(t1, v1)] h1 h2
theorem JL_join2 (k : Nat) (t1 : Nat) (v1 : Value) (t2 : Nat) (v2 : Value) (h1 : (∀ {st1 pre : Sto} {H1 : List Chunk} {R1 : World → Prop} [Tail st1 st pre] [HIn H1 H] [Knows R1 R], apart (keysOf pre) (keysOf [(t1, v1), (t2, v2)]) (keysOf st) = true → StSub st1 [(t1, v1), (t2, v2)] → JL X P ops Q (rest.drop k) st1 H1 R1) → JL X P ops Q rest st H R)
    (h2 : JL X P ops Q (rest.drop k) ((t1, v1) :: (t2, v2) :: st) H R) : JL X P ops Q rest st H R := JL_join k [(t1, v1), (t2, v2)] h1 h2
theorem JL_join3 (k : Nat) (t1 : Nat) (v1 : Value) (t2 : Nat) (v2 : Value) (t3 : Nat) (v3 : Value) (h1 : (∀ {st1 pre : Sto} {H1 : List Chunk} {R1 : World → Prop} [Tail st1 st pre] [HIn H1 H] [Knows R1 R], apart (keysOf pre) (keysOf [(t1, v1), (t2, v2), (t3, v3)]) (keysOf st) = true → StSub st1 [(t1, v1), (t2, v2), (t3, v3)] → JL X P ops Q (rest.drop k) st1 H1 R1) → JL X P ops Q rest st H R)
    (h2 : JL X P ops Q (rest.drop k) ((t1, v1) :: (t2, v2) :: (t3, v3) :: st) H R) : JL X P ops Q rest st H R := JL_join k [(t1, v1), (t2, v2), (t3, v3)] h1 h2
theorem JL_join4 (k : Nat) (t1 : Nat) (v1 : Value) (t2 : Nat) (v2 : Value) (t3 : Nat) (v3 : Value) (t4 : Nat) (v4 : Value) (h1 : (∀ {st1 pre : Sto} {H1 : List Chunk} {R1 : World → Prop} [Tail st1 st pre] [HIn H1 H] [Knows R1 R], apart (keysOf pre) (keysOf [(t1, v1), (t2, v2), (t3, v3), (t4, v4)]) (keysOf st) = true → StSub st1 [(t1, v1), (t2, v2), (t3, v3), (t4, v4)] → JL X P ops Q (rest.drop k) st1 H1 R1) → JL X P ops Q rest st H R)
    (h2 : JL X P ops Q (rest.drop k) ((t1, v1) :: (t2, v2) :: (t3, v3) :: (t4, v4) :: st) H R) : JL X P ops Q rest st H R := JL_join k [(t1, v1), (t2, v2), (t3, v3), (t4, v4)] h1 h2
end
section
variable {X : Ctx} {P : Program} {st : Sto} {H H0 : List Chunk} {R R0 : World → Prop} {k : Kont} {ops : Array Oper} {fuel : Nat} {listed : Array Bool} {tl : List Nat}
/-- Each of those that can be next, behind the first one of the tail. -/
def JTl (X : Ctx) (P : Program) (ops : Array Oper) (k : Kont) (tl : List Nat) (H0 : List Chunk) (R0 : World → Prop) (fuel : Nat) (listed : Array Bool) (st : Sto) (H : List Chunk) (R : World → Prop) (rs : List Nat) : Prop :=
  (∃ t ∈ tl, listed.getD t false = true) → ∀ a w, Ok X st H R a w → ∀ i ∈ rs, wpOpIn (Fof X.ro) X.n P ops (NoPan (kden X P k)) i (fun a' w' => upTo tl (Stays X H0 R0) (listed.setIfInBounds i true) w' ∧ wpAnyHI (Fof X.ro) X.n P ops (NoPan (kden X P k)) (Stays X H0 R0) tl fuel (listed.setIfInBounds i true) a' w') a w
theorem JT_ready {rs : List Nat} (hr : Region.ready .any ops listed = rs) (hne : rs.isEmpty = false) (h : JTl X P ops k tl H0 R0 fuel listed st H R rs) : JT X P ops k tl H0 R0 (fuel + 1) listed st H R := by
  intro hs a w ho
  refine ⟨fun h0 => ?_, fun i hi => h hs a w ho i (hr ▸ hi)⟩
  rw [hr] at h0; rw [h0] at hne; cases hne
theorem JTl_nil : JTl X P ops k tl H0 R0 fuel listed st H R [] := fun _ _ _ _ i hi => by cases hi
theorem JTl_cons {i : Nat} {rs : List Nat} {dst : Option Nat} {op : Op} {ty : TypeId} {pos : String} {af : Array Edge} {α : Type} {v : α → Value} {Hx : α → List Chunk} {Rx : α → World → Prop} (hi : ops[i]? = some ⟨dst, op, ty, pos, af, none⟩) (hN : dstOk dst X.N = true)
    (h : JO X P ⟨dst, op, ty, pos, af, none⟩ st H R v Hx Rx) (hn : ∀ x, JT X P ops k tl H0 R0 fuel (listed.setIfInBounds i true) (putSt dst (v x) st) (Hx x) (Rx x))
    (hrest : JTl X P ops k tl H0 R0 fuel listed st H R rs) : JTl X P ops k tl H0 R0 fuel listed st H R (i :: rs) := by
  intro hs a w ho j hj
  rcases List.mem_cons.1 hj with rfl | hj
  · unfold wpOpIn
    simp only [hi, Region.wanted, if_true]
    obtain ⟨h1, M, Ds, h2, h3⟩ := ho
    refine h a w M Ds _ _ h1 h3 fun x w' M' hm' => ?_
    have hl : ∃ t ∈ tl, (listed.setIfInBounds j true).getD t false = true := hs.elim fun t ht => ⟨t, ht.1, getD_set_true ht.2⟩
    exact ⟨.inl hl, hn x hl _ _ (Ok.putSt h1 h2 hN (v x) hm')⟩
  · exact hrest hs a w ho j hj
/-- One of the tail among those that can be next. -/
theorem JAl_consT {i : Nat} {rs : List Nat} {dst : Option Nat} {op : Op} {ty : TypeId} {pos : String} {af : Array Edge} {α : Type} {v : α → Value} {Hx : α → List Chunk} {Rx : α → World → Prop} (hi : ops[i]? = some ⟨dst, op, ty, pos, af, none⟩) (hit : tl.contains i = true) (hsz : Nat.blt i listed.size = true) (hN : dstOk dst X.N = true)
    (h : JO X P ⟨dst, op, ty, pos, af, none⟩ st H R v Hx Rx) (hn : ∀ x, JT X P ops k tl H0 R0 fuel (listed.setIfInBounds i true) (putSt dst (v x) st) (Hx x) (Rx x))
    (hrest : JAl X P ops k tl H0 R0 fuel listed st H R rs) : JAl X P ops k tl H0 R0 fuel listed st H R (i :: rs) := by
  intro hs a w ho j hj
  rcases List.mem_cons.1 hj with rfl | hj
  · unfold wpOpIn
    simp only [hi, Region.wanted, if_true]
    obtain ⟨h1, M, Ds, h2, h3⟩ := ho
    refine h a w M Ds _ _ h1 h3 fun x w' M' hm' => ?_
    have hl : ∃ t ∈ tl, (listed.setIfInBounds j true).getD t false = true := ⟨j, by simpa using hit, by simp [blt_lt hsz]⟩
    exact ⟨.inl hl, hn x hl _ _ (Ok.putSt h1 h2 hN (v x) hm')⟩
  · exact hrest hs a w ho j hj
end
section
variable {X : Ctx} {P : Program} {st : Sto} {H H' H0 : List Chunk} {R R0 : World → Prop} {k : Kont} {ops : Array Oper} {fuel : Nat} {listed : Array Bool} {tl : List Nat} {rest : List Oper} {Q : Exit → Act → World → Prop}
theorem ok_slice {α : Type} {enc : α → List Value} {z : Nat} [hz : Rec enc z] {a : Act} {w : World} {v : Value} {T n : Nat} {cs : List Value} (xs : List α) [hp0 : OwnAt H v T z n cs H'] (hF : ∀ b, ¬ X.Fp b) (hc : cs = xs.flatMap enc) (hn : n = xs.length) (ho : Ok X st H R a w) :
    ∃ ad cap, v = .slice ad n cap ∧ Ok X st H' (KAnd (KSl ad n cap enc xs) R) a w := by
  have hp : Pick H (ow v T z n cs) H' := ⟨by obtain ⟨A, B, h1, h2⟩ := hp0.ex; subst h1 h2; exact List.perm_middle⟩
  have h1 := ho.freeze (c := ow v T z n cs) hF
  obtain ⟨ad, cap, rfl, _⟩ := ow_sl (enc := enc) h1.r.1 hc hn
  refine ⟨ad, cap, rfl, h1.know fun w hw => ⟨?_, hw.2⟩⟩
  obtain ⟨a', cap', h1, h2⟩ := ow_sl (enc := enc) hw.1 hc hn
  cases h1; exact h2
/-- Behind the first one of the tail an own slice is frozen. -/
theorem JT_slice {α : Type} {enc : α → List Value} {z : Nat} [hz : Rec enc z] {v : Value} {T n : Nat} {cs : List Value} (xs : List α) [hp0 : OwnAt H v T z n cs H'] (hF : ∀ b, ¬ X.Fp b) (hc : cs = xs.flatMap enc) (hn : n = xs.length)
    (h : ∀ a cap, v = .slice a n cap → JT X P ops k tl H0 R0 fuel listed st H' (KAnd (KSl a n cap enc xs) R)) : JT X P ops k tl H0 R0 fuel listed st H R := fun hs a w ho => by
  obtain ⟨ad, cap, e, ho'⟩ := ok_slice (enc := enc) (v := v) (T := T) xs hF hc hn ho
  exact h ad cap e hs a w ho'
theorem JL_slice {α : Type} {enc : α → List Value} {z : Nat} [hz : Rec enc z] {v : Value} {T n : Nat} {cs : List Value} (xs : List α) [hp0 : OwnAt H v T z n cs H'] (hF : ∀ b, ¬ X.Fp b) (hc : cs = xs.flatMap enc) (hn : n = xs.length)
    (h : ∀ a cap, v = .slice a n cap → JL X P ops Q rest st H' (KAnd (KSl a n cap enc xs) R)) : JL X P ops Q rest st H R := fun a w ho => by
  obtain ⟨ad, cap, e, ho'⟩ := ok_slice (enc := enc) (v := v) (T := T) xs hF hc hn ho
  exact h ad cap e a w ho'
end
section
variable {X : Ctx} {P : Program} {st : Sto} {H H' H0 : List Chunk} {R R0 : World → Prop} {k : Kont} {ops : Array Oper} {fuel : Nat} {listed : Array Bool} {tl : List Nat}
/-- The one that can be next; what the region began with is there still. -/
theorem JA_oneH {i : Nat} {dst : Option Nat} {op : Op} {ty : TypeId} {pos : String} {af : Array Edge} {α : Type} {v : α → Value} {Hx : α → List Chunk} {Rx : α → World → Prop} (hr : Region.ready .any ops listed = [i]) (hi : ops[i]? = some ⟨dst, op, ty, pos, af, none⟩) (hN : dstOk dst X.N = true)
    (h : JO X P ⟨dst, op, ty, pos, af, none⟩ st H R v Hx Rx) (hsub : ∀ x, HSub (Hx x) H0 ∧ ∀ w, Rx x w → R0 w) (hn : ∀ x, JA X P ops k tl H0 R0 fuel (listed.setIfInBounds i true) (putSt dst (v x) st) (Hx x) (Rx x)) : JA X P ops k tl H0 R0 (fuel + 1) listed st H R := by
  intro hs a w ho
  refine ⟨fun h0 => (by rw [hr] at h0; cases h0), fun j hj => ?_⟩
  rw [hr] at hj
  obtain rfl := List.mem_singleton.1 hj
  unfold wpOpIn
  simp only [hi, Region.wanted, if_true]
  obtain ⟨h1, M, Ds, h2, h3⟩ := ho
  refine h a w M Ds _ _ h1 h3 fun x w' M' hm' => ?_
  have ho' := Ok.putSt h1 h2 hN (v x) hm'
  exact ⟨.inr (ho'.stays (hsub x)), hn x (hsub x) _ _ ho'⟩
theorem JAl_consH {i : Nat} {rs : List Nat} {dst : Option Nat} {op : Op} {ty : TypeId} {pos : String} {af : Array Edge} {α : Type} {v : α → Value} {Hx : α → List Chunk} {Rx : α → World → Prop} (hi : ops[i]? = some ⟨dst, op, ty, pos, af, none⟩) (hN : dstOk dst X.N = true)
    (h : JO X P ⟨dst, op, ty, pos, af, none⟩ st H R v Hx Rx) (hsub : ∀ x, HSub (Hx x) H0 ∧ ∀ w, Rx x w → R0 w) (hn : ∀ x, JA X P ops k tl H0 R0 fuel (listed.setIfInBounds i true) (putSt dst (v x) st) (Hx x) (Rx x))
    (hrest : JAl X P ops k tl H0 R0 fuel listed st H R rs) : JAl X P ops k tl H0 R0 fuel listed st H R (i :: rs) := by
  intro hs a w ho j hj
  rcases List.mem_cons.1 hj with rfl | hj
  · unfold wpOpIn
    simp only [hi, Region.wanted, if_true]
    obtain ⟨h1, M, Ds, h2, h3⟩ := ho
    refine h a w M Ds _ _ h1 h3 fun x w' M' hm' => ?_
    have ho' := Ok.putSt h1 h2 hN (v x) hm'
    exact ⟨.inr (ho'.stays (hsub x)), hn x (hsub x) _ _ ho'⟩
  · exact hrest hs a w ho j hj
theorem JA_slice {α : Type} {enc : α → List Value} {z : Nat} [hz : Rec enc z] {v : Value} {T n : Nat} {cs : List Value} (xs : List α) [hp0 : OwnAt H v T z n cs H'] [hi : HIn H' H0] (hF : ∀ b, ¬ X.Fp b) (hc : cs = xs.flatMap enc) (hn : n = xs.length)
    (h : ∀ a cap, v = .slice a n cap → JA X P ops k tl H0 R0 fuel listed st H' (KAnd (KSl a n cap enc xs) R)) : JA X P ops k tl H0 R0 fuel listed st H R := fun hs a w ho => by
  obtain ⟨ad, cap, e, ho'⟩ := ok_slice (enc := enc) (v := v) (T := T) xs hF hc hn ho
  exact h ad cap e ⟨hi.sub, fun w hw => hs.2 w hw.2⟩ a w ho'
end
end Go.Proofs.YthpkgabckklojaaGreat

/- Functions that are ranged over, as contracts that hand the yield's memory through; a range over such a one. Nothing is asked. -/
namespace Go.Proofs.YthpkgabckklojaaGreat
open Go.RowKit Go.Shelf

theorem Moves.put {Bs : Nat → Prop} {a w : World} {l : Nat} {o : Obj} (h : Moves Bs a w) (hb : l < a.heap.size → Bs l) : Moves Bs a (w.putObj l o) :=
  h.trans (Bs' := (· = l)) ⟨rfl, rfl, rfl, by simp, fun _ _ hk => World.putObj_heap_other hk⟩ fun _ hi e => by subst e; exact hb hi
/-- Some pieces and a loop's two blocks, as one piece. -/
def bund (Cg : List Chunk) (lo dd : Nat) (r : Loop) : Chunk :=
  ⟨fun b => OwnOf Cg b ∨ b = lo ∨ b = dd, fun W => (∀ c ∈ Cg, c.holds W) ∧ W.heap[lo]? = some (.loop r) ∧ W.heap[dd]? = some (.deferred (some []))⟩
theorem bund_holds {Cg : List Chunk} {lo dd : Nat} {r : Loop} {W : World} (h : ∀ c ∈ Cg, c.holds W) (h1 : W.heap[lo]? = some (.loop r)) (h2 : W.heap[dd]? = some (.deferred (some []))) : (bund Cg lo dd r).holds W :=
  ⟨fun b hb => by
    rcases hb with ⟨c, hc, hb⟩ | rfl | rfl
    · exact (h c hc).bd b hb
    · exact (Array.getElem?_eq_some_iff.1 h1).1
    · exact (Array.getElem?_eq_some_iff.1 h2).1,
   fun w' hz he => ⟨fun c hc => (h c hc).later hz fun b hb => he b (.inl ⟨c, hc, hb⟩), (he lo (.inr (.inl rfl))).trans h1, (he dd (.inr (.inr rfl))).trans h2⟩⟩
/-- What a yield does with a piece of memory. -/
def Yld (P : Program) (l : Nat) (args : List Value) (c : Chunk) (pre : World → Prop) (Q : Bool → Chunk → Prop) : Prop :=
  ∀ (M : Nat → Prop) (w : World), (∀ b, M b → b < w.heap.size) → c.holds w → (∀ b, c.own b → M b) → (∀ w', Moves M w w' → pre w') →
    YieldAt Fence.wide 1 P l args.toArray w (CxPost M w [c] (fun y : Bool × Chunk => .bool y.1) (fun y => [y.2]) (fun y _ => Q y.1 y.2))
/-- A function that is ranged over: it yields these, one by one, until it is told to stop. -/
def Iter {α : Type} (P : Program) (gf : Nat) (lb : List Value) (encs : α → List Value) (pre : World → Prop) (xs : List α) : Prop :=
  ∀ (l : Nat) (Rel : World → Prop) (J Jx : List α → Chunk → Prop) (c : Chunk), J [] c →
    (∀ p x c, J p c → p ++ [x] <+: xs → Yld P l (encs x) c Rel (fun b c' => if b = true then J (p ++ [x]) c' else Jx (p ++ [x]) c')) →
    Cx P gf (.func (.yield l) #[] #[] :: lb) [c] (KAnd Rel pre) (fun y : Value × Bool × List α × Chunk => y.1) (fun y => [y.2.2.2]) (fun y _ => if y.2.1 = true then J xs y.2.2.2 else y.2.2.1 <+: xs ∧ Jx y.2.2.1 y.2.2.2)
section
variable {X : Ctx} {P : Program} {st : Sto} {H H' C D : List Chunk} {R : World → Prop} {k : Kont}
/-- A yield. -/
theorem jo_yield {d : Option Nat} {ty : TypeId} {pos : String} {af : Array Edge} {g : Option (Nat × Bool)} {x : Operand} {l : List Operand} {ts : Array TypeId} {lo : Nat} {vs : List Value} {pre : World → Prop} {Q : Bool → Chunk → Prop} (c : Chunk) (hro : X.ro = none)
    (hx : opnd st x = some (.func (.yield lo) #[] #[])) (hl : evs st l = some vs) (hy : Yld P lo vs c pre Q) [hp : Pick H c H'] [hk : Knows R pre] :
    JO X P ⟨d, .call ⟨.value x, l.toArray, ts⟩, ty, pos, af, g⟩ st H R (fun y : Bool × Chunk => .bool y.1) (fun y => [y.2] ++ H') (fun y => KAnd (fun _ => Q y.1 y.2) R) := by
  intro a w M Ds K Q2 hs hm hK
  refine ⟨fun f _ => fof_fn _ f, ?_⟩
  rw [semAt_plain _ _ _ (by intro c h; cases h)]
  have hm2 := hm.perm hp.perm
  obtain ⟨fn, tmps, assign, body, h1, h2⟩ := hy M w hm2.bd (hm2.hold c (by simp)) (hm2.own c (by simp)) (fun w' hw => hk.know w' (hm2.keep w' hw))
  have hrun : (execOp a.eval ⟨d, .call ⟨.value x, l.toArray, ts⟩, ty, pos, af, g⟩).run P w = .ok (.round lo fn tmps assign body) w := by
    have hm : l.toArray.map a.eval = vs.toArray := by rw [List.map_toArray, hs.evs hl]
    simp only [execOp, resolve, hs.eval hx, hm, Deferred.ofValue, Sem.run_bind, Sem.run_pure, Result.andThen_ok, invoke]
    simpa using h1
  rw [hrun]
  have hF : Fof X.ro = Fence.wide := by rw [hro]; rfl
  rw [hF]
  refine ⟨fun h => (by cases h), ?_⟩
  have h3 : RoundIn Fence.wide (X.n - 1) P lo fn tmps assign body w (CxPost M w [c] (fun y : Bool × Chunk => .bool y.1) (fun y => [y.2]) (fun y _ => Q y.1 y.2)) := ⟨h2.1, fun c cs _ => h2.2 c cs (by simp [Fence.room, Fence.wide])⟩
  refine h3.mono ?_
  rintro e w' ⟨y, M', rfl, q1, q2, q3, q4, q5, q6, q7⟩
  exact hK y w' M' (hm2.swap M' q1 q2 q3 q4 (fun c hc => (q5 c hc).1) (fun c hc => (q5 c hc).2) q6 q7)

set_option maxHeartbeats 1000000 in
/-- A range over such a function. -/
theorem JC_rangeI {α β γ : Type} {g : Operand} {ps : List Tmp} {assign body : Code} {gf : Nat} {lb : List Value} {encs : α → List Value} {pre : World → Prop} {xs : List α} (hro : X.ro = none) (hX : X.n = 3) (hnd : X.nd = false)
    (hg : opnd st g = some (.func (.func gf) #[] lb.toArray)) (eg : ∀ args w, (callFunc gf args).run P w = .ok (.enter gf args) w) (hit : Iter P gf lb encs pre xs) (hH : H.Perm (C ++ D))
    (hpre : ∀ w, saysAll D w → R w → pre w)
    (hps : ∀ x, (encs x).length = ps.length) (hpN : ∀ p ∈ ps, p < X.N)
    (I : List α → γ → Prop) (E : Code → List α → γ → Prop) (C0 : γ → List Chunk) (g0 : γ) (hI0 : I [] g0) (hC0 : C0 g0 = C)
    (stA : α → β → Sto) (cA : α → β → List Chunk)
    (hassign : ∀ (l : Nat) (x : α) (W : World) (K0 : Act → World → Prop), (∀ b a' W', Ok ⟨1, some l, X.N, W, fun _ => False, fun _ => False, true⟩ (stA x b) (cA x b) KTrue a' W' → K0 a' W') →
      JC ⟨1, some l, X.N, W, fun _ => False, fun _ => False, true⟩ P assign (.thenP K0 (.done fun _ _ _ => False)) (asgSt ps (encs x) st) [] KTrue)
    (hbody : ∀ (l : Nat) (p : List α) (x : α) (gg : γ) (b : β) (W : World) (K1 : Act → World → Prop) (QX : Exit → Act → World → Prop), I p gg → p ++ [x] <+: xs →
      (∀ g', I (p ++ [x]) g' → ∀ st' R' a' W', Ok ⟨1, some l, X.N, W, OwnOf (cA x b ++ C0 gg), OwnOf (cA x b ++ C0 gg), true⟩ st' (C0 g') R' a' W' → K1 a' W') →
      (∀ e cd g', exitCode e = some cd → E cd (p ++ [x]) g' → ∀ st' R' a' W', Ok ⟨1, some l, X.N, W, OwnOf (cA x b ++ C0 gg), OwnOf (cA x b ++ C0 gg), true⟩ st' (C0 g') R' a' W' → QX e a' W') →
      JC ⟨1, some l, X.N, W, OwnOf (cA x b ++ C0 gg), OwnOf (cA x b ++ C0 gg), true⟩ P body (.thenP K1 (.done QX)) (stA x b) (cA x b ++ C0 gg) (KAnd (saysAll D) R))
    (hdone : ∀ gg, I xs gg → JE X P .normal k st (C0 gg ++ D) R)
    (hstop : ∀ cd p gg, p <+: xs → E cd p gg → JC X P cd k st (C0 gg ++ D) R) : JC X P (.rangeFunc g ps.toArray assign body) k st H R := by
  intro a w ⟨hs, M, Ds, hd, hm⟩
  have hF : Fof X.ro = Fence.wide := by rw [hro]; rfl
  have hm := hm.perm hH
  have hCD := List.pairwise_append.1 hm.dis
  have hCh : ∀ c ∈ C, c.holds w := fun c hc => hm.hold c (List.mem_append.2 (.inl hc))
  have hDh : ∀ c ∈ D, c.holds w := fun c hc => hm.hold c (List.mem_append.2 (.inr hc))
  have hCM : ∀ b, OwnOf C b → M b := fun b ⟨c, hc, hb⟩ => hm.own c (List.mem_append.2 (.inl hc)) b hb
  have hCD2 : ∀ b, OwnOf C b → ¬ OwnOf D b := fun b ⟨c, hc, hb⟩ ⟨c', hc', hb'⟩ => hCD.2.2 c hc c' hc' b hb hb'
  have hRelK : ∀ (M1 : Nat → Prop), (∀ b, b < w.heap.size → M1 b → M b ∧ ¬ OwnOf D b) → ∀ w', Moves M1 w w' → KAnd (saysAll D) R w' := fun M1 h1 w' hw =>
    ⟨saysAll_iff.2 fun c hc => ((hDh c hc).later hw.size fun b hb => hw.block b ((hDh c hc).bd b hb) fun hb1 => (h1 b ((hDh c hc).bd b hb) hb1).2 ⟨c, hc, hb⟩).now,
     hm.keep w' (hw.weaken fun i hi h => (h1 i hi h).1)⟩
  rw [hF, hX]
  refine wpIn_rangeFunc ?_
  intro fn hfn
  obtain ⟨rec, hrec⟩ : ∃ rec : LoopState → Option Code → Loop, rec = fun st pe => { state := st, pending := pe, fn, tmps := a.tmps, params := ps.toArray, assign, body, defers := w.heap.size } := ⟨_, rfl⟩
  obtain ⟨W1, hW1⟩ : ∃ W1, (w.alloc (.deferred (some []))).alloc (.loop (rec .ready none)) = W1 := ⟨_, rfl⟩
  have hz1 : W1.heap.size = w.heap.size + 1 + 1 := by rw [← hW1]; simp
  have hmv1 : Moves (fun _ => False) w W1 := by rw [← hW1]; exact ((Moves.refl w).alloc _).alloc _
  have hL1 : W1.heap[w.heap.size + 1]? = some (.loop (rec .ready none)) := by
    rw [← hW1]; have := World.alloc_heap_new (w.alloc (.deferred (some []))) (.loop (rec .ready none)); rwa [World.size_alloc] at this
  have hK1 : W1.heap[w.heap.size]? = some (.deferred (some [])) := by
    rw [← hW1]; exact (Below.heap_alloc _ _ _ (by simp)).trans (World.alloc_heap_new w _)
  obtain ⟨lo, hlo⟩ : ∃ lo, lo = w.heap.size + 1 := ⟨_, rfl⟩
  obtain ⟨dd, hdd⟩ : ∃ dd, dd = w.heap.size := ⟨_, rfl⟩
  rw [← hlo] at hL1
  rw [← hdd] at hK1
  -- the user's memory
  obtain ⟨Fit, hFit⟩ : ∃ Fit : List Chunk → Prop, Fit = fun Cg => (Cg.Pairwise fun c d => ∀ b, c.own b → ¬ d.own b) ∧ ∀ b, OwnOf Cg b → b ≠ lo ∧ b ≠ dd := ⟨_, rfl⟩
  have hcx := hit lo (KAnd (saysAll D) R) (fun p c => ∃ gg, I p gg ∧ Fit (C0 gg) ∧ c = bund (C0 gg) lo dd (rec .ready none)) (fun p c => ∃ cd gg, E cd p gg ∧ Fit (C0 gg) ∧ c = bund (C0 gg) lo dd (rec .done (some cd)))
    (bund C lo dd (rec .ready none)) ⟨g0, hI0, by rw [hC0, hFit]; exact ⟨hCD.1, fun b ⟨c, hc, hb⟩ => by have := (hCh c hc).bd b hb; omega⟩, by rw [hC0]⟩ ?round
  case round =>
    rintro p x _ ⟨gg, hi, hfit, rfl⟩ hpx M2 w2 hM2 hc2 hown2 hpre2
    have hfit' := hfit
    rw [hFit] at hfit'
    obtain ⟨hdis2, hne2⟩ := hfit'
    obtain ⟨hCh2, hl2, hd2⟩ := hc2.now
    have hlt2 : lo < w2.heap.size := (Array.getElem?_eq_some_iff.1 hl2).1
    have hltd : dd < w2.heap.size := (Array.getElem?_eq_some_iff.1 hd2).1
    have hy := run_yield (P := P) (args := (encs x).toArray) hl2 (by rw [hrec]; simp [hps])
    rw [hrec] at hy
    refine ⟨fn, _, assign, body, hy, roundIn_of_wpIn hfn ?_⟩
    refine hassign lo x w2 _ (fun b a' W' ho => ?_) _ w2 ⟨?_, fun _ => False, [], rfl, ?_⟩
    · obtain ⟨h1, M', Ds', h2, h3⟩ := ho
      have hmv : Moves (fun _ => False) w2 W' := h3.mv
      have hDs : Ds' = [] := h3.mk0 rfl
      have hlW : W'.heap[lo]? = some (.loop (rec .ready none)) := (hmv.block lo hlt2 (fun h => h)).trans hl2
      have hdW : W'.heap[dd]? = some (.deferred (some [])) := (hmv.block dd hltd (fun h => h)).trans hd2
      obtain ⟨W4, hW4⟩ : ∃ W4, W4 = W'.putObj lo (.loop { rec .ready none with state := .busy }) := ⟨_, rfl⟩
      refine ⟨W4, by rw [hW4]; exact run_beginRound hlW (by rw [hrec]), ?_⟩
      have hz4 : W4.heap.size = W'.heap.size := by rw [hW4]; simp
      have hl4 : W4.heap[lo]? = some (.loop { rec .ready none with state := .busy }) := by rw [hW4]; exact World.putObj_heap_same (Nat.lt_of_lt_of_le hlt2 hmv.size)
      have hd4 : W4.heap[dd]? = some (.deferred (some [])) := by rw [hW4]; exact (World.putObj_heap_other (by omega)).trans hdW
      have hmv4 : Moves (· = lo) W' W4 := by rw [hW4]; exact (Moves.refl W').put fun _ => rfl
      have hmv24 : Moves (· = lo) w2 W4 := (hmv.weaken (fun _ _ h => h.elim)).trans hmv4 fun _ _ h => h
      have hA4 : ∀ c ∈ cA x b, c.holds W4 ∧ ∀ i, c.own i → w2.heap.size ≤ i := fun c hc => by
        have hge : ∀ i, c.own i → w2.heap.size ≤ i := fun i hci => (h3.fp c hc i hci).resolve_left (fun h => h)
        exact ⟨(h3.hold c hc).later hmv4.size fun i hi => hmv4.block i ((h3.hold c hc).bd i hi) fun e => by have := hge i hi; omega, hge⟩
      have hC4 : ∀ c ∈ C0 gg, c.holds W4 := fun c hc => (hCh2 c hc).later hmv24.size fun i hi => hmv24.block i ((hCh2 c hc).bd i hi) fun e => (hne2 i ⟨c, hc, hi⟩).1 e
      have hown4 : ∀ i, OwnOf (cA x b ++ C0 gg) i → w2.heap.size ≤ i ∨ OwnOf (C0 gg) i := fun i ⟨c, hc, hci⟩ => by
        rcases List.mem_append.1 hc with hc | hc
        · exact .inl ((hA4 c hc).2 i hci)
        · exact .inr ⟨c, hc, hci⟩
      have hall4 : ∀ c ∈ cA x b ++ C0 gg, c.holds W4 := fun c hc => (List.mem_append.1 hc).elim (fun h => (hA4 c h).1) (hC4 c)
      -- how a round ends
      have hfin : ∀ (jump : Option Code) (g' : γ) (R' : World → Prop) (st' : Sto) (a2 : Act) (W3 : World), Ok ⟨1, some lo, X.N, W4, OwnOf (cA x b ++ C0 gg), OwnOf (cA x b ++ C0 gg), true⟩ st' (C0 g') R' a2 W3 →
          ∀ Qp : Bool → Chunk → Prop, Qp jump.isNone (bund (C0 g') lo dd (rec (if jump.isNone then .ready else .done) jump)) →
          ∃ v w', (Instr.endRound lo jump).run P W3 = .ok v w' ∧ CxPost M2 w2 [bund (C0 gg) lo dd (rec .ready none)] (fun y : Bool × Chunk => .bool y.1) (fun y => [y.2]) (fun y _ => Qp y.1 y.2) (.returned v) w' := by
        rintro jump g' R' st' a2 W3 ⟨_, M3, Ds3, _, h6⟩ Qp hQ
        have hmv3 : Moves (OwnOf (cA x b ++ C0 gg)) W4 W3 := h6.mv
        have hnl : ¬ OwnOf (cA x b ++ C0 gg) lo := fun h => (hown4 lo h).elim (by omega) fun h => (hne2 lo h).1 rfl
        have hnd' : ¬ OwnOf (cA x b ++ C0 gg) dd := fun h => (hown4 dd h).elim (by omega) fun h => (hne2 dd h).2 rfl
        have hl3 : W3.heap[lo]? = some (.loop { rec .ready none with state := .busy }) := (hmv3.block lo (by have := hmv.size; omega) hnl).trans hl4
        have hd3 : W3.heap[dd]? = some (.deferred (some [])) := (hmv3.block dd (by have := hmv.size; omega) hnd').trans hd4
        have hrun := run_endRound (P := P) jump hl3
        obtain ⟨W5, hW5⟩ : ∃ W5, W5 = W3.putObj lo (.loop (rec (if jump.isNone then .ready else .done) jump)) := ⟨_, rfl⟩
        have hg' : ∀ i, OwnOf (C0 g') i → w2.heap.size ≤ i ∨ OwnOf (C0 gg) i := fun i ⟨c, hc, hci⟩ => by
          rcases h6.fp c hc i hci with h | h
          · exact hown4 i h
          · exact .inl (Nat.le_trans hmv24.size h)
        have hne' : ∀ i, OwnOf (C0 g') i → i ≠ lo ∧ i ≠ dd := fun i hi => (hg' i hi).elim (fun h => by omega) fun h => hne2 i h
        have hmv5 : Moves (· = lo) W3 W5 := by rw [hW5]; exact (Moves.refl W3).put fun _ => rfl
        have hh5 : ∀ c ∈ C0 g', c.holds W5 := fun c hc => (h6.hold c hc).later hmv5.size fun i hi => hmv5.block i ((h6.hold c hc).bd i hi) fun e => (hne' i ⟨c, hc, hi⟩).1 e
        have hb5 : (bund (C0 g') lo dd (rec (if jump.isNone then .ready else .done) jump)).holds W5 :=
          bund_holds hh5 (by rw [hW5]; exact World.putObj_heap_same (by have := hmv3.size; have := hmv.size; omega)) ((hmv5.block dd (by have := hmv3.size; have := hmv.size; omega) (by show dd ≠ lo; omega)).trans hd3)
        refine ⟨.bool jump.isNone, W5, by rw [hrun, hW5, hrec], (jump.isNone, bund (C0 g') lo dd (rec (if jump.isNone then .ready else .done) jump)), fun i => M2 i ∨ OwnOf (C0 g') i, rfl, ?_, fun _ h => .inl h, fun i h => h.elim .inl fun h => ?_, fun i h => ?_, ?_, List.pairwise_singleton _ _, fun _ _ => hQ⟩
        · refine ((hmv24.weaken (Bs' := fun i => ∃ c ∈ [bund (C0 gg) lo dd (rec .ready none)], c.own i) fun i _ e => ⟨_, List.mem_singleton.2 rfl, .inr (.inl e)⟩).trans hmv3 fun i hi h => ?_).trans hmv5 fun i _ e => ⟨_, List.mem_singleton.2 rfl, .inr (.inl e)⟩
          rcases hown4 i h with h | h
          · omega
          · exact ⟨_, List.mem_singleton.2 rfl, .inl h⟩
        · rcases hg' i h with h | h
          · exact .inr h
          · exact .inl (hown2 i (.inl h))
        · rcases h with h | h
          · have := hM2 i h; have := hmv24.size; have := hmv3.size; have := hmv5.size; omega
          · exact hb5.bd i (.inl h)
        · intro c hc
          obtain rfl := List.mem_singleton.1 hc
          refine ⟨hb5, fun i hi => ?_⟩
          rcases hi with hi | rfl | rfl
          · refine ⟨.inr hi, ?_⟩
            rcases hg' i hi with h | h
            · exact .inr h
            · exact .inl ⟨_, List.mem_singleton.2 rfl, .inl h⟩
          · exact ⟨.inl (hown2 _ (.inr (.inl rfl))), .inl ⟨_, List.mem_singleton.2 rfl, .inr (.inl rfl)⟩⟩
          · exact ⟨.inl (hown2 _ (.inr (.inr rfl))), .inl ⟨_, List.mem_singleton.2 rfl, .inr (.inr rfl)⟩⟩
      have hfit2 : ∀ (g' : γ) (R' : World → Prop) (st' : Sto) (a2 : Act) (W3 : World), Ok ⟨1, some lo, X.N, W4, OwnOf (cA x b ++ C0 gg), OwnOf (cA x b ++ C0 gg), true⟩ st' (C0 g') R' a2 W3 → Fit (C0 g') := by
        rintro g' R' st' a2 W3 ⟨_, M3, Ds3, _, h6⟩
        rw [hFit]
        refine ⟨h6.dis, fun i ⟨c, hc, hci⟩ => ?_⟩
        rcases h6.fp c hc i hci with h | h
        · rcases hown4 i h with h | h
          · omega
          · exact hne2 i h
        · have := hmv24.size
          have h : W4.heap.size ≤ i := h
          omega
      refine wpIn_mono (hbody lo p x gg b W4 (fun a2 W3 => roundPost P lo (CxPost M2 w2 [bund (C0 gg) lo dd (rec .ready none)] (fun y : Bool × Chunk => .bool y.1) (fun y => [y.2]) (fun y _ => if y.1 = true then (∃ gg, I (p ++ [x]) gg ∧ Fit (C0 gg) ∧ y.2 = bund (C0 gg) lo dd (rec .ready none)) else ∃ cd gg, E cd (p ++ [x]) gg ∧ Fit (C0 gg) ∧ y.2 = bund (C0 gg) lo dd (rec .done (some cd)))) .normal a2 W3)
        (fun e a2 W3 => ∃ cd, exitCode e = some cd ∧ ∃ v w', (Instr.endRound lo (some cd)).run P W3 = .ok v w' ∧ (CxPost M2 w2 [bund (C0 gg) lo dd (rec .ready none)] (fun y : Bool × Chunk => .bool y.1) (fun y => [y.2]) (fun y _ => if y.1 = true then (∃ gg, I (p ++ [x]) gg ∧ Fit (C0 gg) ∧ y.2 = bund (C0 gg) lo dd (rec .ready none)) else ∃ cd gg, E cd (p ++ [x]) gg ∧ Fit (C0 gg) ∧ y.2 = bund (C0 gg) lo dd (rec .done (some cd)))) (.returned v) w')
        hi hpx
        (fun g' hi' st' R' a2 W3 ho => by
          have := hfin none g' R' st' a2 W3 ho (fun b c => if b = true then (∃ gg, I (p ++ [x]) gg ∧ Fit (C0 gg) ∧ c = bund (C0 gg) lo dd (rec .ready none)) else ∃ cd gg, E cd (p ++ [x]) gg ∧ Fit (C0 gg) ∧ c = bund (C0 gg) lo dd (rec .done (some cd))) ⟨g', hi', hfit2 g' R' st' a2 W3 ho, rfl⟩
          exact this)
        (fun e cd g' he hE st' R' a2 W3 ho => by
          have := hfin (some cd) g' R' st' a2 W3 ho (fun b c => if b = true then (∃ gg, I (p ++ [x]) gg ∧ Fit (C0 gg) ∧ c = bund (C0 gg) lo dd (rec .ready none)) else ∃ cd gg, E cd (p ++ [x]) gg ∧ Fit (C0 gg) ∧ c = bund (C0 gg) lo dd (rec .done (some cd))) ⟨cd, g', hE, hfit2 g' R' st' a2 W3 ho, rfl⟩
          exact ⟨cd, he, this⟩) a' W4 ⟨h1, OwnOf (cA x b ++ C0 gg), [], by simp [h2, hDs], ?_⟩) ?_
      · refine ⟨fun i ⟨c, hc, hci⟩ => (hall4 c hc).bd i hci, hall4, fun c hc i hci => ⟨c, hc, hci⟩, fun c hc i hci => .inl ⟨c, hc, hci⟩, List.pairwise_append.2 ⟨h3.dis, hdis2, fun c hc c' hc' i hci hci' => ?_⟩,
          fun w' hw => hpre2 w' ((hmv24.weaken (Bs' := M2) fun i _ e => e ▸ hown2 lo (.inr (.inl rfl))).trans hw fun i hi h => ?_), Moves.refl W4, fun _ h => h, fun _ h => .inl h, MarksIn.nil _ _, by simp, by simp, fun i ⟨c, hc, hci⟩ => (hall4 c hc).bd i hci, fun _ => rfl⟩
        · have h7 := (hA4 c hc).2 i hci
          have := (hCh2 c' hc').bd i hci'
          omega
        · rcases hown4 i h with h | h
          · omega
          · exact hown2 i (.inl h)
      · intro e a2 W3 hq
        cases e with
        | normal => exact hq
        | ret => obtain ⟨cd, he, h5⟩ := hq; cases he; exact h5
        | exit id => obtain ⟨cd, he, h5⟩ := hq; cases he; exact h5
        | goto t => obtain ⟨cd, he, _⟩ := hq; cases he
        | panic _ => obtain ⟨cd, he, _⟩ := hq; cases he
        | outgrown => obtain ⟨cd, he, _⟩ := hq; cases he
    · have := StOk.asg (N := X.N) (ps := ps) (vs := encs x) (st := st) (t := a.tmps) (hps x).symm hpN ⟨hs.size, hs.get⟩
      simpa using this
    · exact ⟨fun _ h => h.elim, by simp, by simp, by simp, .nil, fun _ _ => trivial, Moves.refl w2, fun _ h => h, fun _ h => h.elim, MarksIn.nil _ _, by simp, by simp, fun _ h => h.elim, fun _ => rfl⟩
  have hcall := hcx (fun b => (M b ∧ ¬ OwnOf D b) ∨ b = lo ∨ b = dd) W1 (fun b hb => by
      rcases hb with hb | rfl | rfl
      · have := hm.bd b hb.1; omega
      · omega
      · omega)
    (fun c hc => by
      obtain rfl := List.mem_singleton.1 hc
      refine ⟨bund_holds (fun c hc => (hCh c hc).later hmv1.size fun b hb => hmv1.block b ((hCh c hc).bd b hb) (fun h => h)) hL1 hK1, fun b hb => ?_⟩
      rcases hb with hb | rfl | rfl
      · exact .inl ⟨hCM b hb, hCD2 b hb⟩
      · exact .inr (.inl rfl)
      · exact .inr (.inr rfl))
    (List.pairwise_singleton _ _)
    (fun w' hw => by
      have := hRelK (fun b => (M b ∧ ¬ OwnOf D b) ∨ b = lo ∨ b = dd) (fun b hb h => h.resolve_right (by omega)) w' ((hmv1.weaken fun _ _ h => h.elim).trans hw fun _ _ h => h)
      exact ⟨this, hpre w' this.1 this.2⟩)
  refine ⟨lo, [{ target := .collected w.heap.size, args := #[] }], W1, { target := .fn (.func gf) lb.toArray, args := #[.func (.yield lo) #[] #[]] }, W1, gf,
    #[.func (.yield lo) #[] #[]] ++ lb.toArray, W1, ?_, ?_, fun f' hf' => trivial, ?_, fun _ => by omega, ?_⟩
  · rw [← hW1, hrec, hlo]; exact run_enterLoop_outer _ _ _ _ _
  · simp only [resolve, hs.eval hg]
    simp [go_sem]
  · simp [invoke, go_sem, eg]
  · refine callsIn_wide.2 (Calls.mono (by simpa using hcall) ?_)
    rintro e W2 ⟨⟨v, bb, p, c'⟩, M', rfl, q1, q2, q3, q4, q5, q6, q7⟩
    have hq := q7 W2 (Moves.refl W2)
    obtain ⟨hc', hcm⟩ := q5 c' (List.mem_singleton.2 rfl)
    -- behind the loop
    have hback : ∀ (gg : γ) (st' : LoopState) (pe : Option Code), Fit (C0 gg) → c' = bund (C0 gg) lo dd (rec st' pe) →
        Ok X st (C0 gg ++ D) R { a with defers := Mark dd :: a.defers } (W2.putObj lo (.loop { rec st' pe with state := .exhausted })) := by
      rintro gg st' pe hfit rfl
      rw [hFit] at hfit
      obtain ⟨hdis, hne⟩ := hfit
      obtain ⟨hh2, hl2, hd2⟩ := hc'.now
      obtain ⟨W3, hW3⟩ : ∃ W3, W3 = W2.putObj lo (.loop { rec st' pe with state := .exhausted }) := ⟨_, rfl⟩
      rw [← hW3]
      have hmv3 : Moves (· = lo) W2 W3 := by rw [hW3]; exact (Moves.refl W2).put fun _ => rfl
      have hd3 : W3.heap[dd]? = some (.deferred (some [])) := (hmv3.block dd (Array.getElem?_eq_some_iff.1 hd2).1 (by show dd ≠ lo; omega)).trans hd2
      have hh3 : ∀ c ∈ C0 gg, c.holds W3 := fun c hc => (hh2 c hc).later hmv3.size fun i hi => hmv3.block i ((hh2 c hc).bd i hi) fun e => (hne i ⟨c, hc, hi⟩).1 e
      have hnew : ∀ b, OwnOf (C0 gg) b → OwnOf C b ∨ w.heap.size ≤ b := fun b hb => by
        rcases (hcm b (.inl hb)).2 with ⟨c0, h0, h1⟩ | h
        · obtain rfl := List.mem_singleton.1 h0
          rcases h1 with h1 | rfl | rfl
          · exact .inl h1
          · exact .inr (by omega)
          · exact .inr (by omega)
        · exact .inr (by omega)
      have hmvw : Moves (fun b => ∃ c ∈ C, c.own b) w W3 := by
        refine ((hmv1.weaken (Bs' := fun b => ∃ c ∈ C, c.own b) fun _ _ h => h.elim).trans q1 fun i hi h => ?_).trans hmv3 fun i hi e => by
          have e : i = lo := e
          omega
        obtain ⟨c0, h0, h1⟩ := h
        obtain rfl := List.mem_singleton.1 h0
        rcases h1 with h1 | rfl | rfl
        · exact h1
        · omega
        · omega
      have hsw := hm.swap (C' := C0 gg) (R' := fun _ => True) (w' := W3) (fun b => M b ∨ OwnOf (C0 gg) b) hmvw (fun _ h => .inl h)
        (fun b hb => hb.elim .inl fun h => (hnew b h).imp (fun h => hCM b h) id) (fun b hb => hb.elim (fun h => Nat.lt_of_lt_of_le (hm.bd b h) hmvw.size) fun ⟨c, hc, hcb⟩ => (hh3 c hc).bd b hcb)
        hh3 (fun c hc b hb => ⟨.inr ⟨c, hc, hb⟩, hnew b ⟨c, hc, hb⟩⟩) hdis (fun _ _ => trivial)
      have hsw := hsw.know (R' := R) fun _ h => h.2
      have hnoD : ∀ c ∈ C0 gg ++ D, ¬ c.own dd := by
        intro c hc hb
        rcases List.mem_append.1 hc with hc | hc
        · exact (hne dd ⟨c, hc, hb⟩).2 rfl
        · have := (hDh c hc).bd dd hb; omega
      have hlt : dd < W3.heap.size := (Array.getElem?_eq_some_iff.1 hd3).1
      refine ⟨⟨hs.size, hs.get⟩, fun b => (M b ∨ OwnOf (C0 gg) b) ∨ b = dd, dd :: Ds, by simp [hd], ?_⟩
      exact ⟨fun b hb => hb.elim (hsw.bd b) (fun e => e ▸ hlt), hsw.hold, fun c hc b hb => .inl (hsw.own c hc b hb), hsw.fp, hsw.dis,
        fun w' hw => hm.keep w' ((hmvw.weaken fun i _ hi => hCM i hi).trans hw fun i hi hb => hb.elim (fun h => h.elim id fun h => ((hnew i h).resolve_right (by omega)) |> fun h => hCM i h) (fun e => by omega)),
        hsw.mv, fun b hb => .inl (hsw.m0 b hb), fun b hb => hb.elim (hsw.m1 b) (fun e => .inr (by have := hm.mv.size; omega)), hm.mks.push hsw.mks (by omega) (by have := hm.mv.size; omega) hd3,
        fun x hx => (List.mem_cons.1 hx).elim (fun e => .inr e) (fun h => .inl (hsw.mkM x h)), fun x hx c hc => (List.mem_cons.1 hx).elim (fun e => e ▸ hnoD c hc) (fun h => hsw.mkH x h c hc), hm.m2, fun h => by rw [hnd] at h; cases h⟩
    cases bb with
    | true =>
      obtain ⟨gg, hi, hfit, he⟩ : ∃ gg, I xs gg ∧ Fit (C0 gg) ∧ c' = bund (C0 gg) lo dd (rec .ready none) := by simpa using hq
      have hl2 : W2.heap[lo]? = some (.loop (rec .ready none)) := by rw [he] at hc'; exact hc'.now.2.1
      have := run_endLoop (P := P) hl2 (by rw [hrec]; simp)
      have hp : (rec .ready none).pending = none := by rw [hrec]
      refine ⟨none, W2.putObj lo (.loop { rec .ready none with state := .exhausted }), this.trans (congrArg (fun q => Result.ok q _) hp), ?_⟩
      have h := hdone gg hi _ _ (hback gg .ready none hfit he)
      rw [← hdd]
      exact h
    | false =>
      obtain ⟨hpx, cd, gg, hi, hfit, he⟩ : p <+: xs ∧ ∃ cd gg, E cd p gg ∧ Fit (C0 gg) ∧ c' = bund (C0 gg) lo dd (rec .done (some cd)) := by simpa using hq
      have hl2 : W2.heap[lo]? = some (.loop (rec .done (some cd))) := by rw [he] at hc'; exact hc'.now.2.1
      have := run_endLoop (P := P) hl2 (by rw [hrec]; simp)
      have hp : (rec .done (some cd)).pending = some cd := by rw [hrec]
      refine ⟨some cd, W2.putObj lo (.loop { rec .done (some cd) with state := .exhausted }), this.trans (congrArg (fun q => Result.ok q _) hp), ?_⟩
      have h := hstop cd p gg hpx hi _ _ (hback gg .done (some cd) hfit he)
      rw [hF, hX] at h
      rw [← hdd]
      exact h
end
end Go.Proofs.YthpkgabckklojaaGreat

/- Maps that are only read; numbers and small structs as keys. Nothing is asked. -/
namespace Go.Proofs.YthpkgabckklojaaGreat
open Go.RowKit Go.Shelf

/-- A map that lies somewhere. -/
def KMap {κ ν : Type} (b : Nat) (ek : κ → Value) (ev : ν → Value) (m : κ → Option ν) : World → Prop := fun w => MapIs w b ek ev m
class MapKn (R : World → Prop) (b : Nat) (κ ν : outParam Type) (ek : outParam (κ → Value)) (ev : outParam (ν → Value)) (m : outParam (κ → Option ν)) : Prop where
  know : ∀ w, R w → MapIs w b ek ev m
instance {κ ν : Type} (b : Nat) (ek : κ → Value) (ev : ν → Value) (m : κ → Option ν) : MapKn (KMap b ek ev m) b κ ν ek ev m := ⟨fun _ h => h⟩
instance {κ ν : Type} (A B : World → Prop) (b : Nat) (ek : κ → Value) (ev : ν → Value) (m : κ → Option ν) [h : MapKn B b κ ν ek ev m] : MapKn (KAnd A B) b κ ν ek ev m := ⟨fun w hw => h.know w hw.2⟩
instance {κ ν : Type} (A B : World → Prop) (b : Nat) (ek : κ → Value) (ev : ν → Value) (m : κ → Option ν) [h : MapKn A b κ ν ek ev m] : MapKn (KAnd A B) b κ ν ek ev m := ⟨fun w hw => h.know w hw.1⟩
section
variable {X : Ctx} {P : Program} {st : Sto} {H H' : List Chunk} {R : World → Prop} {k : Kont} {ops : Array Oper} {rest : List Oper} {Q : Exit → Act → World → Prop} {d : Option Nat} {ty : TypeId} {pos : String} {af : Array Edge} {g : Option (Nat × Bool)}
theorem det_lookup2K {κ ν : Type} {x y : Operand} {t K E : TypeId} {b : Nat} {ek : κ → Value} {ev : ν → Value} {m : κ → Option ν} {z : Value} (key : κ) (hx : opnd st x = some (.map (some b))) [hb : MapKn R b κ ν ek ev m] (hy : opnd st y = some (ek key))
    (G : GoodKey P K ek) (hT : P.underlying t = some (.map K E)) (hz : ∀ w, (zeroValue E).run P w = .ok z w) : Det X P ⟨d, .lookup t x y true, ty, pos, af, g⟩ st H R (.tuple #[(m key).elim z ev, .bool (m key).isSome]) := fun a w M Ds hs hm => by
  have hmp : MapIs w b ek ev m := hb.know w hm.r
  simp only [execOp, hs.eval hx, hs.eval hy, Sem.run_bind, hmp.lookup G hT (hz w) key true, Result.andThen_ok, Sem.run_pure, if_true]
theorem det_lookup1K {κ ν : Type} {x y : Operand} {t K E : TypeId} {b : Nat} {ek : κ → Value} {ev : ν → Value} {m : κ → Option ν} {z : Value} (key : κ) (hx : opnd st x = some (.map (some b))) [hb : MapKn R b κ ν ek ev m] (hy : opnd st y = some (ek key))
    (G : GoodKey P K ek) (hT : P.underlying t = some (.map K E)) (hz : ∀ w, (zeroValue E).run P w = .ok z w) : Det X P ⟨d, .lookup t x y false, ty, pos, af, g⟩ st H R ((m key).elim z ev) := fun a w M Ds hs hm => by
  have hmp : MapIs w b ek ev m := hb.know w hm.r
  simp only [execOp, hs.eval hx, hs.eval hy, Sem.run_bind, hmp.lookup G hT (hz w) key false, Result.andThen_ok, Sem.run_pure, Bool.false_eq_true, if_false]
/-- Out of a map of bools: what stands there, or false. -/
theorem det_lookupBK {κ : Type} {x y : Operand} {t K E : TypeId} {b : Nat} {ek : κ → Value} {m : κ → Option Bool} (key : κ) (hx : opnd st x = some (.map (some b))) [hb : MapKn R b κ Bool ek vB m] (hy : opnd st y = some (ek key))
    (G : GoodKey P K ek) (hT : P.underlying t = some (.map K E)) (hz : ∀ w, (zeroValue E).run P w = .ok (.bool false) w) : Det X P ⟨d, .lookup t x y false, ty, pos, af, g⟩ st H R (.bool ((m key).getD false)) := by
  have := det_lookup1K (X := X) (P := P) (H := H) (R := R) (d := d) (ty := ty) (pos := pos) (af := af) (g := g) (ev := vB) key hx hy G hT hz
  cases hm : m key <;> rw [hm] at this <;> exact this
theorem JL_keepM {κ ν : Type} {ek : κ → Value} {ev : ν → Value} {m : κ → Option ν} (b : Nat) [hp : MapPick H b ek ev m H'] (hF : ∀ b, ¬ X.Fp b) (h : JL X P ops Q rest st H' (KAnd (KMap b ek ev m) R)) : JL X P ops Q rest st H R := by
  have : Pick H (mp b ek ev m) H' := ⟨hp.perm⟩
  exact JL_freeze (mp b ek ev m) hF h
theorem JC_keepM {c : Code} {κ ν : Type} {ek : κ → Value} {ev : ν → Value} {m : κ → Option ν} (b : Nat) [hp : MapPick H b ek ev m H'] (hF : ∀ b, ¬ X.Fp b) (h : JC X P c k st H' (KAnd (KMap b ek ev m) R)) : JC X P c k st H R := by
  have : Pick H (mp b ek ev m) H' := ⟨hp.perm⟩
  exact JC_freeze (mp b ek ev m) hF h
theorem JE_keepM {e : Exit} {κ ν : Type} {ek : κ → Value} {ev : ν → Value} {m : κ → Option ν} (b : Nat) [hp : MapPick H b ek ev m H'] (hF : ∀ b, ¬ X.Fp b) (h : JE X P e k st H' (KAnd (KMap b ek ev m) R)) : JE X P e k st H R := by
  have : Pick H (mp b ek ev m) H' := ⟨hp.perm⟩
  exact JE_freeze (mp b ek ev m) hF h
end
/-! Keys. -/
def ekI (n : Int) : Value := I n
theorem chkI_run {P : Program} {K : TypeId} (hK : P.underlying K = some (.int .i64)) (n : Nat) (b : Bool) (k : Int) (w : World) : (Instr.checkKey b (n + 1) K (ekI k)).run P w = .ok () w := by
  unfold ekI
  simp [Instr.checkKey, Sem.run_bind, run_underlying hK, Result.andThen]
theorem goodI {P : Program} {K : TypeId} (hK : P.underlying K = some (.int .i64)) : GoodKey P K ekI := by
  refine ⟨fun b k w => ?_, fun k es w h => ?_, fun k => ?_, fun a b h => ?_⟩
  · exact chkI_run hK 9999 b k w
  · have key : ∀ (es : List MapEntry) (i : Nat), (∀ e ∈ es, ∃ k', e.key = ekI k') → ∃ r, Instr.findNow (.int .i64) (ekI k) es i = some r ∧ ((r = none ∧ ∀ e ∈ es, e.key ≠ ekI k) ∨ ∃ j e, r = some (i + j, e.val) ∧ es[j]? = some e ∧ e.key = ekI k) := by
      intro es
      induction es with
      | nil => intro i _; exact ⟨none, rfl, .inl ⟨rfl, by simp⟩⟩
      | cons e es ih =>
        intro i h
        obtain ⟨k', hk'⟩ := h e (by simp)
        by_cases hkk : k = k'
        · subst hkk
          exact ⟨some (i, e.val), by simp [Instr.findNow, Instr.sameNow, hk', ekI], .inr ⟨0, e, by simp, by simp, hk'⟩⟩
        · obtain ⟨r, hr, hc⟩ := ih (i + 1) fun x hx => h x (by simp [hx])
          have e0 : (k == k') = false := by simpa using hkk
          refine ⟨r, by simp only [ekI] at hr; simp [Instr.findNow, Instr.sameNow, hk', ekI, e0, hr], ?_⟩
          rcases hc with ⟨h1, h2⟩ | ⟨j, x, h1, h2, h3⟩
          · refine .inl ⟨h1, fun x hx => ?_⟩
            rcases List.mem_cons.1 hx with rfl | hx
            · rw [hk']; intro e'; simp [ekI] at e'; exact hkk e'.symm
            · exact h2 x hx
          · exact .inr ⟨j + 1, x, by rw [h1]; congr 2; omega, by simpa using h2, h3⟩
    obtain ⟨r, hr, hc⟩ := key es 0 h
    refine ⟨r, ?_, by simpa using hc⟩
    simp [Instr.findKey, Sem.run_bind, run_underlying hK, hr]
  · simp [ekI, Instr.sameBits]
  · simpa [ekI] using h
end Go.Proofs.YthpkgabckklojaaGreat

/- Arrays: an element's address, an element; a row of bools. Nothing is asked. -/
namespace Go.Proofs.YthpkgabckklojaaGreat
open Go.RowKit Go.Shelf

section
variable {X : Ctx} {P : Program} {st : Sto} {H H' : List Chunk} {R : World → Prop} {d : Option Nat} {ty : TypeId} {pos : String} {af : Array Edge} {g : Option (Nat × Bool)}
/-- An element's address, in an array that lies in a block. -/
theorem det_indexArr {x ix : Operand} {t E b off n z : Nat} {q : IntKind} {j : Int} {i : Nat} (hx : opnd st x = some (.pointer (some ⟨b, off, none⟩))) (hi : opnd st ix = some (.int q j)) (hj : j = (i : Int)) (hn : i < n)
    (hu : ∀ w, (underlying t).run P w = .ok (.array n E) w) (hS : ∀ w, (sizeOf E).run P w = .ok z w) : PDet P ⟨d, .indexAddr t x ix, ty, pos, af, g⟩ st (.pointer (some ⟨b, off + i * z, none⟩)) := fun N ac w hst => by
  subst hj
  have e2 : (0 : Int) ≤ (i : Int) ∧ (i : Int) < (n : Int) := by omega
  simp only [execOp, hst.eval hx, hst.eval hi, Instr.indexAt, asIntOf, Sem.run_bind, Sem.run_pure, Result.andThen_ok, hu, Instr.sureAddr]
  simp only [e2, and_self, if_true, Sem.run_bind, hS, Result.andThen_ok, Sem.run_pure, Int.toNat_natCast]
  simp [addr_add]
/-- An element, of an array at hand. -/
theorem det_indexArrV {x ix : Operand} {t E n : Nat} {q : IntKind} {j : Int} {i : Nat} {cs : List Value} {v : Value} (hx : opnd st x = some (.agg cs.toArray)) (hi : opnd st ix = some (.int q j)) (hj : j = (i : Int)) (hn : i < n)
    (hu : ∀ w, (underlying t).run P w = .ok (.array n E) w) (hS : ∀ w, (sizeOf E).run P w = .ok 1 w) (hA : ∀ w, (isAgg E).run P w = .ok false w) (hv : cs[i]? = some v) : PDet P ⟨d, .index t x ix, ty, pos, af, g⟩ st v := fun N ac w hst => by
  subst hj
  have e2 : (0 : Int) ≤ (i : Int) ∧ (i : Int) < (n : Int) := by omega
  simp only [execOp, hst.eval hx, hst.eval hi, Instr.index, asIntOf, Sem.run_bind, Sem.run_pure, Result.andThen_ok, hu]
  simp only [e2, and_self, if_true, Sem.run_bind, hS, Result.andThen_ok, Int.toNat_natCast, Nat.mul_one]
  simp [part, Sem.run_bind, hA, Result.andThen, hv]
end
/-- Some bools, as cells. -/
def encW (n : Nat) (w : Nat → Bool) : List Value := (List.range n).map fun i => .bool (w i)
theorem encW_len (n : Nat) (w : Nat → Bool) : (encW n w).length = n := by simp [encW]
theorem encW_get {n : Nat} {w : Nat → Bool} {i : Nat} (h : i < n) : (encW n w)[i]? = some (.bool (w i)) := by
  simp [encW, h]
def updW (w : Nat → Bool) (i : Nat) (v : Bool) : Nat → Bool := fun j => if j = i then v else w j
theorem encW_set (n : Nat) (w : Nat → Bool) (i : Nat) (v : Bool) : splice (encW n w) i [.bool v] = encW n (updW w i v) := by
  show (encW n w).set i (.bool v) = _
  apply List.ext_getElem?
  intro j
  rw [List.getElem?_set]
  by_cases hj : j < n
  · rw [encW_get (w := updW w i v) hj]
    by_cases e : i = j
    · subst e; rw [if_pos rfl, if_pos (by rw [encW_len]; exact hj)]; show some (Value.bool v) = some (.bool (if i = i then v else w i)); rw [if_pos rfl]
    · rw [if_neg e, encW_get hj]; show _ = some (Value.bool (if j = i then v else w j)); rw [if_neg (Ne.symm e)]
  · have h1 : (encW n (updW w i v))[j]? = none := List.getElem?_eq_none (by rw [encW_len]; omega)
    have h2 : (encW n w)[j]? = none := List.getElem?_eq_none (by rw [encW_len]; omega)
    rw [h1, h2]
    split
    · rw [if_neg (by rw [encW_len]; omega)]
    · rfl
theorem encW_cells (n : Nat) (w : Nat → Bool) : (encW n w).all (·.oneCell') = true := by
  rw [List.all_eq_true]
  intro x hx
  obtain ⟨i, _, rfl⟩ := List.mem_map.1 hx
  rfl
end Go.Proofs.YthpkgabckklojaaGreat

/- Maps: an entry is taken, and filled later. Nothing is asked. -/
namespace Go.Proofs.YthpkgabckklojaaGreat
open Go.RowKit Go.Shelf

section
variable {P : Program} {κ ν : Type}
/-- A map, one of whose entries is at hand. -/
def MapSt (w : World) (b : Nat) (ek : κ → Value) (ev : ν → Value) (m : κ → Option ν) (key : κ) (st : Nat) : Prop :=
  ∃ (es : Array MapEntry) (clock : Nat), w.heap[b]? = some (.map es clock) ∧
    (∀ (i j : Nat) (ei ej : MapEntry), es.toList[i]? = some ei → es.toList[j]? = some ej → (ei.key = ej.key ∨ ei.born = ej.born) → i = j) ∧
    (∀ e ∈ es.toList, e.born < clock) ∧ (∀ e ∈ es.toList, ∃ k v, e.key = ek k ∧ e.val = ev v ∧ m k = some v) ∧
    (∀ k v, m k = some v → ∃ e ∈ es.toList, e.key = ek k ∧ e.val = ev v) ∧ ∃ (i : Nat) (e : MapEntry), es.toList[i]? = some e ∧ e.key = ek key ∧ e.born = st
theorem MapSt.isMap {w : World} {b : Nat} {ek : κ → Value} {ev : ν → Value} {m : κ → Option ν} {key : κ} {st : Nat} (h : MapSt w b ek ev m key st) : MapIs w b ek ev m := by
  obtain ⟨es, clock, hb, h1, h2, h3, h4, _⟩ := h; exact ⟨es, clock, hb, h1, h2, h3, h4⟩
theorem MapSt.at_ {w w' : World} {b : Nat} {ek : κ → Value} {ev : ν → Value} {m : κ → Option ν} {key : κ} {st : Nat} (h : MapSt w b ek ev m key st) (e : w'.heap[b]? = w.heap[b]?) : MapSt w' b ek ev m key st := by
  obtain ⟨es, clock, hb, hr⟩ := h; exact ⟨es, clock, e.trans hb, hr⟩
theorem findIdx_born {p : MapEntry → Bool} : ∀ {l : List MapEntry} {i : Nat} {e : MapEntry}, l[i]? = some e → p e = true → (∀ (j : Nat) (e' : MapEntry), l[j]? = some e' → p e' = true → j = i) → l.findIdx? p = some i
  | a :: l, 0, e, h, hp, _ => by
    simp at h; subst h
    simp [List.findIdx?_cons, hp]
  | a :: l, i + 1, e, h, hp, hu => by
    have ha : p a = false := by
      cases ha : p a
      · rfl
      · have := hu 0 a (by simp) ha; omega
    have ih := findIdx_born (l := l) (i := i) (e := e) (by simpa using h) hp (fun j e' hj hp' => by have := hu (j + 1) e' (by simpa using hj) hp'; omega)
    simp [List.findIdx?_cons, ha, ih]
theorem findIdx_arr (xs : Array MapEntry) (p : MapEntry → Bool) : xs.findIdx? p = xs.toList.findIdx? p := by
  cases xs
  simp
variable {w : World} {b : Nat} {K E T : TypeId} {ek : κ → Value} {ev : ν → Value} {m : κ → Option ν}
theorem MapIs.entry [DecidableEq κ] (h : MapIs w b ek ev m) (G : GoodKey P K ek) (hT : P.underlying T = some (.map K E)) {z : ν} (hz : ∀ w, (zeroValue E).run P w = .ok (ev z) w) (k : κ) :
    ∃ w' st, (Instr.mapEntry T (.map (some b)) (ek k)).run P w = .ok (.tuple #[ev ((m k).getD z), goInt ((st : Nat) : Int)]) w' ∧ MapSt w' b ek ev (upd m k ((m k).getD z)) k st ∧ Moves (· = b) w w' ∧ w'.heap.size = w.heap.size := by
  have h0 := h
  obtain ⟨es, clock, hb, h1, h2, h3, h4⟩ := h
  have hlt := (Array.getElem?_eq_some_iff.1 hb).1
  obtain ⟨r, hr, hc⟩ := G.find k es.toList w (fun e he => by obtain ⟨k', v, hk, _⟩ := h3 e he; exact ⟨k', hk⟩)
  have hg : (getObj b).run P w = .ok (.map es clock) w := by simp [getObj, Sem.run, hb]
  have hset : ∀ o, (setObj b o).run P w = .ok () { w with heap := w.heap.setIfInBounds b o } := by intro o; simp [setObj, Sem.run, hb]
  have hmv : ∀ o, Moves (· = b) w { w with heap := w.heap.setIfInBounds b o } := fun o => ⟨rfl, rfl, rfl, by simp, fun i hi hn => by simp [Ne.symm hn]⟩
  rcases hc with ⟨rfl, hno⟩ | ⟨i, e, rfl, hi, hk⟩
  · have hm : m k = none := by
      cases hm : m k with
      | none => rfl
      | some v => obtain ⟨e, he, hk, _⟩ := h4 k v hm; exact absurd hk (hno e he)
    obtain ⟨w', r1, r2, r3, r4⟩ := h0.update (P := P) G hT k z
    have e1 : (Instr.mapUpdate T (.map (some b)) (ek k) (ev z)).run P w = .ok () { w with heap := w.heap.setIfInBounds b (.map (es.push { key := ek k, val := ev z, born := clock }) (clock + 1)) } := by
      simp [Instr.mapUpdate, Sem.run_bind, run_underlying hT, hg, Result.andThen, G.check, hr, hset]
    rw [e1] at r1
    cases r1
    rw [hm]
    refine ⟨_, clock, by simp [Instr.mapEntry, Sem.run_bind, run_underlying hT, hg, Result.andThen, G.check, hr, hset, hz], ?_, r3, r4⟩
    obtain ⟨es', clock', b1, b2, b3, b4, b5⟩ := r2
    have b1' := b1
    simp [hlt] at b1'
    obtain ⟨rfl, rfl⟩ := b1'
    exact ⟨_, _, b1, b2, b3, b4, b5, es.size, { key := ek k, val := ev z, born := clock }, by simp, rfl, rfl⟩
  · obtain ⟨k', v, hk', hv, hm⟩ := h3 e (List.mem_of_getElem? hi)
    have : k' = k := G.inj _ _ (hk'.symm.trans hk)
    subst this
    have hes : es[i]? = some e := by simpa using hi
    have hks : (Instr.keyThatStays (((es[i]?).map (·.key)).getD (ek k')) (ek k')).run P w = .ok (ek k') w := by
      simp [hes, hk, Instr.keyThatStays, G.bits]
    have hsame : es.modify i (fun e => { e with key := ek k' }) = es := by
      apply Array.ext'
      apply List.ext_getElem?
      intro j
      simp only [Array.toList_modify, List.getElem?_modify]
      by_cases e' : i = j
      · subst e'
        rw [hi]
        simp [← hk]
      · simp [e']
    have hupd : upd m k' ((m k').getD z) = m := by
      funext x
      unfold upd
      split
      · rename_i e; subst e; rw [hm]; rfl
      · rfl
    rw [hupd, hm]
    refine ⟨{ w with heap := w.heap.setIfInBounds b (.map es clock) }, e.born, ?_, ⟨es, clock, by simp [hlt], h1, h2, h3, h4, i, e, hi, hk, rfl⟩, hmv _, by simp⟩
    simp only [Instr.mapEntry, Sem.run_bind, run_underlying hT, hg, Result.andThen, G.check, hr]
    simp only [hks, hset, hsame]
    simp [hes, hv]
theorem MapSt.store [DecidableEq κ] {key : κ} {st : Nat} (h : MapSt w b ek ev m key st) (G : GoodKey P K ek) (hT : P.underlying T = some (.map K E)) (v : ν) :
    ∃ w', (Instr.entryStore T (.map (some b)) (goInt ((st : Nat) : Int)) (ev v)).run P w = .ok () w' ∧ MapIs w' b ek ev (upd m key v) ∧ Moves (· = b) w w' ∧ w'.heap.size = w.heap.size := by
  obtain ⟨w', r1, r2, r3, r4⟩ := h.isMap.update (P := P) G hT key v
  obtain ⟨es, clock, hb, h1, h2, h3, h4, i, e, hi, hk, hst⟩ := h
  refine ⟨w', ?_, r2, r3, r4⟩
  rw [← r1]
  have hlt := (Array.getElem?_eq_some_iff.1 hb).1
  have hg : (getObj b).run P w = .ok (.map es clock) w := by simp [getObj, Sem.run, hb]
  have hset : ∀ o, (setObj b o).run P w = .ok () { w with heap := w.heap.setIfInBounds b o } := by intro o; simp [setObj, Sem.run, hb]
  obtain ⟨r, hr, hc⟩ := G.find key es.toList w (fun e he => by obtain ⟨k', v, hk, _⟩ := h3 e he; exact ⟨k', hk⟩)
  have hes : es[i]? = some e := by simpa using hi
  rcases hc with ⟨rfl, hno⟩ | ⟨i2, e2, rfl, hi2, hk2⟩
  · exact absurd hk (hno e (List.mem_of_getElem? hi))
  · obtain rfl := h1 i2 i e2 e hi2 hi (.inl (hk2.trans hk.symm))
    rw [hi] at hi2
    cases hi2
    have hidx : es.findIdx? (fun e => ((e.born : Nat) : Int) == ((st : Nat) : Int)) = some i2 := by
      rw [findIdx_arr]
      refine findIdx_born hi (by simp [hst]) fun j e' hj hp => ?_
      simp only [beq_iff_eq, Int.natCast_inj] at hp
      exact h1 j i2 e' e hj hi (.inr (hp.trans hst.symm))
    have hks : (Instr.keyThatStays (((es[i2]?).map (·.key)).getD (ek key)) (ek key)).run P w = .ok (ek key) w := by
      simp [hes, hk, Instr.keyThatStays, G.bits]
    have hmod : es.modify i2 (fun e => { e with val := ev v }) = es.modify i2 (fun e' => { e' with key := ek key, val := ev v }) := by
      apply Array.ext'
      apply List.ext_getElem?
      intro j
      simp only [Array.toList_modify, List.getElem?_modify]
      by_cases e' : i2 = j
      · subst e'
        rw [hi]
        simp [← hk]
      · simp [e']
    simp only [Instr.mapUpdate, Instr.entryStore, Sem.run_bind, run_underlying hT, hg, Result.andThen, G.check, hr]
    simp only [hks, hset]
    simp [asInt, asIntOf, goInt, hidx, hset, hmod, Sem.run_bind, Result.andThen]
end
/-- A map of the call's own, one of whose entries is at hand. -/
def mps {κ ν : Type} (b : Nat) (ek : κ → Value) (ev : ν → Value) (m : κ → Option ν) (key : κ) (st : Nat) : Chunk := ⟨(· = b), fun w => MapSt w b ek ev m key st⟩
theorem mps_holds {κ ν : Type} {w : World} {b : Nat} {ek : κ → Value} {ev : ν → Value} {m : κ → Option ν} {key : κ} {st : Nat} (h : MapSt w b ek ev m key st) : (mps b ek ev m key st).holds w :=
  ⟨fun x hx => by cases hx; exact h.isMap.lt, fun w' _ he => h.at_ (he b rfl)⟩
class MpsPick (H : List Chunk) (b : Nat) (κ ν : outParam Type) (ek : outParam (κ → Value)) (ev : outParam (ν → Value)) (m : outParam (κ → Option ν)) (key : outParam κ) (st : outParam Nat) (H' : outParam (List Chunk)) : Prop where
  perm : H.Perm (mps b ek ev m key st :: H')
instance {κ ν : Type} (H : List Chunk) (b : Nat) (ek : κ → Value) (ev : ν → Value) (m : κ → Option ν) (key : κ) (st : Nat) : MpsPick (mps b ek ev m key st :: H) b κ ν ek ev m key st H := ⟨List.Perm.refl _⟩
instance {κ ν : Type} (H H' : List Chunk) (b : Nat) (ek : κ → Value) (ev : ν → Value) (m : κ → Option ν) (key : κ) (st : Nat) (c : Chunk) [h : MpsPick H b κ ν ek ev m key st H'] : MpsPick (c :: H) b κ ν ek ev m key st (c :: H') := ⟨(h.perm.cons c).trans (List.Perm.swap _ _ _)⟩
instance {κ ν : Type} (A B B' : List Chunk) (b : Nat) (ek : κ → Value) (ev : ν → Value) (m : κ → Option ν) [h : MapPick B b ek ev m B'] : MapPick (A ++ B) b ek ev m (A ++ B') := ⟨(h.perm.append_left A).trans List.perm_middle⟩
instance {κ ν : Type} (A A' B : List Chunk) (b : Nat) (ek : κ → Value) (ev : ν → Value) (m : κ → Option ν) [h : MapPick A b ek ev m A'] : MapPick (A ++ B) b ek ev m (A' ++ B) := ⟨h.perm.append_right B⟩
instance {κ ν : Type} (A B B' : List Chunk) (b : Nat) (ek : κ → Value) (ev : ν → Value) (m : κ → Option ν) (key : κ) (st : Nat) [h : MpsPick B b κ ν ek ev m key st B'] : MpsPick (A ++ B) b κ ν ek ev m key st (A ++ B') := ⟨(h.perm.append_left A).trans List.perm_middle⟩
instance {κ ν : Type} (A A' B : List Chunk) (b : Nat) (ek : κ → Value) (ev : ν → Value) (m : κ → Option ν) (key : κ) (st : Nat) [h : MpsPick A b κ ν ek ev m key st A'] : MpsPick (A ++ B) b κ ν ek ev m key st (A' ++ B) := ⟨h.perm.append_right B⟩
section
variable {X : Ctx} {P : Program} {st : Sto} {H H' : List Chunk} {R : World → Prop} {d : Option Nat} {ty : TypeId} {pos : String} {af : Array Edge} {g : Option (Nat × Bool)}
/-- One piece of memory becomes another one in the same place. -/
theorem Mem.turn {M : Nat → Prop} {Ds : List Nat} {b : Nat} {c c' : Chunk} {w w' : World} (hm : Mem X M Ds (c :: H) R w) (hc : c.own = (· = b)) (hc' : c'.own = (· = b)) (hmv : Moves (· = b) w w') (hz : w'.heap.size = w.heap.size) (hh : c'.holds w') : Mem X M Ds (c' :: H) R w' := by
  have := hm.swap (C := [c]) (C' := [c']) (R' := fun _ => True) M (hmv.weaken fun i _ hi => ⟨c, by simp, by rw [hc]; exact hi⟩) (fun _ h => h) (fun _ h => .inl h)
    (fun b hb => by rw [hz]; exact hm.bd b hb) (by intro x hx; simp at hx; subst hx; exact hh)
    (by intro x hx b' hb'; simp at hx; subst hx; rw [hc'] at hb'; have : c.own b' := by rw [hc]; exact hb'
        exact ⟨hm.own c (by simp) _ this, .inl ⟨c, by simp, this⟩⟩) (by simp) (fun _ _ => trivial)
  exact this.know fun w h => h.2
theorem jo_mapEntry {κ ν : Type} [DecidableEq κ] {x y : Operand} {t K E : TypeId} {b : Nat} {ek : κ → Value} {ev : ν → Value} {m : κ → Option ν} (key : κ) (z : ν) (hx : opnd st x = some (.map (some b))) [hb : MapPick H b ek ev m H'] (hy : opnd st y = some (ek key))
    (G : GoodKey P K ek) (hT : P.underlying t = some (.map K E)) (hz : ∀ w, (zeroValue E).run P w = .ok (ev z) w) :
    JO X P ⟨d, .mapEntry t x y, ty, pos, af, g⟩ st H R (fun s : Nat => .tuple #[ev ((m key).getD z), .int .i64 s]) (fun s => mps b ek ev (upd m key ((m key).getD z)) key s :: H') (fun _ => R) := by
  intro a w M Ds Kk Q hs hm hK
  have hm2 := hm.perm hb.perm
  have hmp : MapIs w b ek ev m := (hm2.hold (mp b ek ev m) (by simp)).now
  obtain ⟨w', s, r1, r2, r3, r4⟩ := hmp.entry (P := P) G hT hz key
  refine ⟨fun f _ => fof_fn _ f, ?_⟩
  rw [semAt_plain _ _ _ (by intro c h; cases h)]
  have hrun : (execOp a.eval ⟨d, .mapEntry t x y, ty, pos, af, g⟩).run P w = .ok (.value (.tuple #[ev ((m key).getD z), .int .i64 s])) w' := by
    simp only [execOp, hs.eval hx, hs.eval hy, Sem.run_bind, r1, Result.andThen]; rfl
  rw [hrun]
  exact hK s w' M (hm2.turn rfl rfl r3 r4 (mps_holds r2))
theorem jo_entryStore {κ ν : Type} [DecidableEq κ] {x y u : Operand} {t K E : TypeId} {b s : Nat} {ek : κ → Value} {ev : ν → Value} {m : κ → Option ν} {key : κ} (v : ν) (hx : opnd st x = some (.map (some b))) [hb : MpsPick H b κ ν ek ev m key s H'] (hy : opnd st y = some (.int .i64 s)) (hu : opnd st u = some (ev v))
    (G : GoodKey P K ek) (hT : P.underlying t = some (.map K E)) : JO X P ⟨d, .entryStore t x y u, ty, pos, af, g⟩ st H R (fun _ : Unit => undef) (fun _ => mp b ek ev (upd m key v) :: H') (fun _ => R) := by
  intro a w M Ds Kk Q hs hm hK
  have hm2 := hm.perm hb.perm
  have hmp : MapSt w b ek ev m key s := (hm2.hold (mps b ek ev m key s) (by simp)).now
  obtain ⟨w', r1, r2, r3, r4⟩ := hmp.store (P := P) G hT v
  refine ⟨fun f _ => fof_fn _ f, ?_⟩
  rw [semAt_plain _ _ _ (by intro c h; cases h)]
  have hrun : (execOp a.eval ⟨d, .entryStore t x y u, ty, pos, af, g⟩).run P w = .ok .skip w' := by
    have r1' : (Instr.entryStore t (.map (some b)) (.int .i64 s) (ev v)).run P w = .ok () w' := r1
    simp only [execOp, hs.eval hx, hs.eval hy, hs.eval hu, Sem.run_bind, r1', Result.andThen]; rfl
  rw [hrun]
  exact hK () w' M (hm2.turn rfl rfl r3 r4 (mp_holds r2))
theorem upd_upd {κ ν : Type} [DecidableEq κ] (m : κ → Option ν) (k : κ) (u v : ν) : upd (upd m k u) k v = upd m k v := by
  funext x; unfold upd; split <;> rfl
end
end Go.Proofs.YthpkgabckklojaaGreat

/- Stores into slices of the call's own. Nothing is asked. -/
namespace Go.Proofs.YthpkgabckklojaaGreat
open Go.RowKit Go.Shelf

/-- A box whose type is told. -/
def BoxT (w : World) (b : Nat) (T : TypeId) (cs : List Value) : Prop := w.heap[b]? = some (.cells cs.toArray T (0, 0))
theorem BoxT.box {w : World} {b : Nat} {T : TypeId} {cs : List Value} (h : BoxT w b T cs) : Box w b cs := ⟨T, h⟩
theorem BoxT.set {w : World} {b : Nat} {T : TypeId} {cs : List Value} (h : BoxT w b T cs) (i : Nat) (v : Value) : BoxT (w.setCell ⟨b, i, none⟩ v) b T (cs.set i v) := by
  unfold BoxT at h ⊢
  simp only [World.setCell, Array.getElem?_modify, if_true, h]
  simp
theorem storeCells_runT {P : Program} (b off : Nat) (T : TypeId) : ∀ (vs : List Value) (i : Nat) (w : World) (cs : List Value), BoxT w b T cs → off + i + vs.length ≤ cs.length → (∀ v ∈ vs, v.oneCell' = true) →
    ∃ w', (storeCells ⟨b, off, none⟩ vs i).run P w = .ok () w' ∧ BoxT w' b T (splice cs (off + i) vs) ∧ Moves (· = b) w w' ∧ w'.heap.size = w.heap.size
  | [], i, w, cs, h, _, _ => ⟨w, rfl, h, Moves.refl _, rfl⟩
  | v :: vs, i, w, cs, h, hl, h1 => by
    simp only [List.length_cons] at hl
    have hc : w.cell? ⟨b, off + i, none⟩ = some cs[off + i] := h.box.cell _ (List.getElem?_eq_getElem (by omega))
    have hf := h.box.free (off + i)
    have hs := run_store P w ⟨b, off + i, none⟩ v .plain (h1 v (by simp))
    rw [hc] at hs
    simp only [hf, Bool.false_eq_true, if_false] at hs
    obtain ⟨w', e1, e2, e3, e4⟩ := storeCells_runT (P := P) b off T vs (i + 1) (w.setCell ⟨b, off + i, none⟩ v) _ (h.set (off + i) v) (by rw [List.length_set]; omega) (fun u hu => h1 u (by simp [hu]))
    refine ⟨w', ?_, ?_, ?_, ?_⟩
    · rw [storeCells, addr_add]; simp [Sem.run_bind, hs, Result.andThen, e1]
    · rw [splice, Nat.add_assoc]; exact e2
    · exact ((Moves.refl (Bs := (· = b)) w).set (fun _ => rfl)).trans e3 (fun _ _ h => h)
    · rw [e4]; simp [World.setCell]
theorem storeVar_runT {P : Program} {w : World} {b : Nat} {T : TypeId} {cs vs : List Value} (h : BoxT w b T cs) (t off : Nat) (v : Value) (hv : v.cells = vs.toArray) (hS : ∀ w, (sizeOf t).run P w = .ok vs.length w) (hl : off + vs.length ≤ cs.length) (h1 : vs.all (·.oneCell') = true) :
    ∃ w', (storeVar t ⟨b, off, none⟩ v).run P w = .ok () w' ∧ BoxT w' b T (splice cs off vs) ∧ Moves (· = b) w w' ∧ w'.heap.size = w.heap.size := by
  obtain ⟨w', e1, e2⟩ := storeCells_runT (P := P) b off T vs 0 w cs h hl (fun v hv => List.all_eq_true.1 h1 v hv)
  refine ⟨w', ?_, e2⟩
  unfold storeVar
  simp only [Sem.run_bind, hS, hv, Result.andThen_ok]
  simpa using e1
theorem splice_take : ∀ (vs cs : List Value) (o k : Nat), o + vs.length ≤ k → (splice cs o vs).take k = splice (cs.take k) o vs
  | [], cs, o, k, _ => rfl
  | v :: vs, cs, o, k, h => by
    simp only [List.length_cons] at h
    rw [splice, splice, splice_take vs _ (o + 1) k (by omega), List.take_set]
class RowPick (H : List Chunk) (b : Nat) (T z n cap : outParam Nat) (xs : outParam (List Value)) (H' : outParam (List Chunk)) : Prop where
  perm : H.Perm (ow (.slice (some ⟨b, 0, none⟩) n cap) T z n xs :: H')
instance (H : List Chunk) (b T z n cap : Nat) (xs : List Value) : RowPick (ow (.slice (some ⟨b, 0, none⟩) n cap) T z n xs :: H) b T z n cap xs H := ⟨List.Perm.refl _⟩
instance (H H' : List Chunk) (b T z n cap : Nat) (xs : List Value) (c : Chunk) [h : RowPick H b T z n cap xs H'] : RowPick (c :: H) b T z n cap xs (c :: H') := ⟨(h.perm.cons c).trans (List.Perm.swap _ _ _)⟩
instance (A B B' : List Chunk) (b T z n cap : Nat) (xs : List Value) [h : RowPick B b T z n cap xs B'] : RowPick (A ++ B) b T z n cap xs (A ++ B') := ⟨(h.perm.append_left A).trans List.perm_middle⟩
instance (A A' B : List Chunk) (b T z n cap : Nat) (xs : List Value) [h : RowPick A b T z n cap xs A'] : RowPick (A ++ B) b T z n cap xs (A' ++ B) := ⟨h.perm.append_right B⟩
section
variable {X : Ctx} {P : Program} {st : Sto} {H H' : List Chunk} {R : World → Prop} {d : Option Nat} {ty : TypeId} {pos : String} {af : Array Edge} {g : Option (Nat × Bool)}
/-- A store into a slice of the call's own. -/
theorem jo_storeO {x y : Operand} {t b off T z n cap : Nat} {xs xs' vs : List Value} {v : Value} (hx : opnd st x = some (.pointer (some ⟨b, off, none⟩))) (hy : opnd st y = some v) (hv : v.cells = vs.toArray) [hp : RowPick H b T z n cap xs H'] (hcs : splice xs off vs = xs')
    (hS : ∀ w, (sizeOf t).run P w = .ok vs.length w) (hl : off + vs.length ≤ xs.length) (h1 : vs.all (·.oneCell') = true) :
    JO X P ⟨d, .store t x y, ty, pos, af, g⟩ st H R (fun _ : Unit => undef) (fun _ => ow (.slice (some ⟨b, 0, none⟩) n cap) T z n xs' :: H') (fun _ => R) := by
  intro a w M Ds K Q hs hm hK
  subst hcs
  have hm2 := hm.perm hp.perm
  have hown : w.ownsRow 0 T z (.slice (some ⟨b, 0, none⟩) n cap) n xs := (hm2.hold _ (List.mem_cons_self ..)).now
  obtain ⟨hxl, hrow⟩ := hown
  rcases hrow with ⟨h, _⟩ | ⟨g', cap', cur, hv', h3, h4, h5, h6, h7, h8⟩
  · cases h
  cases hv'
  have hB : BoxT w b T cur.toList := by unfold BoxT; simpa using h4
  have hlen : n * z ≤ cur.toList.length := by
    have := congrArg List.length h8
    rw [List.length_take, hxl] at this; omega
  obtain ⟨w', r1, r2, r3, r4⟩ := storeVar_runT (P := P) hB t off v hv hS (by omega) h1
  refine ⟨fun f _ => fof_fn _ f, ?_⟩
  rw [semAt_plain _ _ _ (by intro c h; cases h)]
  have hrun : (execOp a.eval ⟨d, .store t x y, ty, pos, af, g⟩).run P w = .ok .skip w' := by
    simp [execOp, hs.eval hx, hs.eval hy, Instr.storeAt, Instr.sureAddr, Sem.run_bind, r1, Result.andThen]
  rw [hrun]
  have hnew : w'.ownsRow 0 T z (.slice (some ⟨b, 0, none⟩) n cap) n (splice xs off vs) := by
    refine ⟨by rw [splice_len, hxl], .inr ⟨b, cap, (splice cur.toList off vs).toArray, rfl, h3, r2, h5, h6, ?_, ?_⟩⟩
    · have e : (splice cur.toList off vs).length = cur.toList.length := splice_len _ _ _
      simp only [List.size_toArray, e, Array.length_toList, h7]
    · show (splice cur.toList off vs).take (n * z) = _
      rw [splice_take _ _ _ _ (by omega), h8]
  refine hK () w' M ?_
  have := hm2.swap (C := [ow (.slice (some ⟨b, 0, none⟩) n cap) T z n xs]) (D := H') (C' := [ow (.slice (some ⟨b, 0, none⟩) n cap) T z n (splice xs off vs)]) (R' := fun _ => True) M (r3.weaken fun i _ hi => ⟨ow (.slice (some ⟨b, 0, none⟩) n cap) T z n xs, by simp, by cases hi; rfl⟩) (fun _ h => h) (fun _ h => .inl h)
    (fun b hb => by rw [r4]; exact hm.bd b hb) (by intro c hc; simp at hc; subst hc; exact ow_holds hnew)
    (by
      intro c hc b' hb'
      simp at hc; subst hc
      exact ⟨hm2.own _ (List.mem_cons_self ..) _ hb', .inl ⟨ow (.slice (some ⟨b, 0, none⟩) n cap) T z n xs, by simp, hb'⟩⟩) (by simp) (fun _ _ => trivial)
  exact this.know fun w h => h.2
end
/-- A record of a list of records. -/
theorem flat_rec {α : Type} (enc : α → List Value) {z : Nat} [hz : Rec enc z] (xs : List α) (i : Nat) (hi : i < xs.length) : ((xs.flatMap enc).drop (i * z)).take z = enc xs[i] := by
  induction xs generalizing i with
  | nil => simp at hi
  | cons x xs ih =>
    rw [List.flatMap_cons]
    cases i with
    | zero => rw [Nat.zero_mul, List.drop_zero, List.take_left' (hz.len x)]; rfl
    | succ i =>
      rw [Nat.succ_mul, Nat.add_comm, ← List.drop_drop, List.drop_left' (hz.len x)]
      exact ih i (by simpa using hi)
theorem splice_at : ∀ (vs A B C : List Value), B.length = vs.length → splice (A ++ B ++ C) A.length vs = A ++ vs ++ C
  | [], A, B, C, h => by rw [List.eq_nil_of_length_eq_zero h]; rfl
  | v :: vs, A, B, C, h => by
    cases B with
    | nil => simp at h
    | cons b B =>
      rw [splice]
      have e : (A ++ (b :: B) ++ C).set A.length v = (A ++ [v]) ++ B ++ C := by simp
      rw [e, show A.length + 1 = (A ++ [v]).length by simp, splice_at vs (A ++ [v]) B C (by simpa using h)]
      simp
theorem flat_len {α : Type} (enc : α → List Value) {z : Nat} [hz : Rec enc z] (xs : List α) : (xs.flatMap enc).length = xs.length * z := flatMap_len enc z hz.len xs
/-- A record put over another one. -/
theorem splice_rec {α : Type} (enc : α → List Value) {z : Nat} [hz : Rec enc z] (xs : List α) (i : Nat) (y : α) (hi : i < xs.length) : splice (xs.flatMap enc) (i * z) (enc y) = (xs.set i y).flatMap enc := by
  have e1 : xs = xs.take i ++ xs[i] :: xs.drop (i + 1) := by rw [List.getElem_cons_drop]; exact (List.take_append_drop i xs).symm
  have e2 : xs.set i y = xs.take i ++ y :: xs.drop (i + 1) := List.set_eq_take_append_cons_drop.trans (by rw [if_pos hi])
  rw [e2]
  have e3 : xs.flatMap enc = (xs.take i).flatMap enc ++ enc xs[i] ++ (xs.drop (i + 1)).flatMap enc := by
    conv => lhs; rw [e1]
    rw [List.flatMap_append, List.flatMap_cons, List.append_assoc]
  have e4 : i * z = ((xs.take i).flatMap enc).length := by rw [flat_len, List.length_take, Nat.min_eq_left (by omega)]
  rw [e3, e4, splice_at _ _ _ _ (by rw [hz.len, hz.len]), List.flatMap_append, List.flatMap_cons, List.append_assoc]
section
variable {X : Ctx} {P : Program} {st : Sto} {H H' : List Chunk} {R : World → Prop} {k : Kont} {ops : Array Oper} {rest : List Oper} {Q : Exit → Act → World → Prop}
/-- A slice of the call's own that has a record lies somewhere. -/
theorem ok_some {ac : Act} {w : World} {a : Option Addr} {n m cap T z : Nat} {xs : List Value} [hp : OwnAt H (.slice a n cap) T z m xs H'] (hn : 0 < n) (h : Ok X st H R ac w) : ∃ b, a = some ⟨b, 0, none⟩ := by
  obtain ⟨h1, M, Ds, h2, hm⟩ := h
  obtain ⟨A, B, e1, e2⟩ := hp.ex
  have := (hm.hold (ow (.slice a n cap) T z m xs) (by rw [e1]; simp)).now
  rcases this.2 with ⟨h, _⟩ | ⟨g, cap', cur, hv, _⟩
  · cases h; omega
  · cases hv; exact ⟨g, rfl⟩
theorem JC_some {c : Code} {n m cap T z : Nat} {xs : List Value} (a : Option Addr) [hp : OwnAt H (.slice a n cap) T z m xs H'] (hn : 0 < n) (h : ∀ b, a = some ⟨b, 0, none⟩ → JC X P c k st H R) : JC X P c k st H R := fun ac w ho => by
  obtain ⟨b, e⟩ := ok_some (a := a) (n := n) (cap := cap) hn ho
  exact h b e ac w ho
theorem JL_some {n m cap T z : Nat} {xs : List Value} (a : Option Addr) [hp : OwnAt H (.slice a n cap) T z m xs H'] (hn : 0 < n) (h : ∀ b, a = some ⟨b, 0, none⟩ → JL X P ops Q rest st H R) : JL X P ops Q rest st H R := fun ac w ho => by
  obtain ⟨b, e⟩ := ok_some (a := a) (n := n) (cap := cap) hn ho
  exact h b e ac w ho
end
section
variable {X : Ctx} {P : Program} {st : Sto} {H H' H0 : List Chunk} {R R0 : World → Prop} {k : Kont} {ops : Array Oper} {fuel : Nat} {listed : Array Bool} {tl : List Nat}
theorem JA_some {n m cap T z : Nat} {xs : List Value} (a : Option Addr) [hp : OwnAt H (.slice a n cap) T z m xs H'] (hn : 0 < n) (h : ∀ b, a = some ⟨b, 0, none⟩ → JA X P ops k tl H0 R0 fuel listed st H R) : JA X P ops k tl H0 R0 fuel listed st H R := fun hs ac w ho => by
  obtain ⟨b, e⟩ := ok_some (a := a) (n := n) (cap := cap) hn ho
  exact h b e hs ac w ho
end
end Go.Proofs.YthpkgabckklojaaGreat

/- Slices made, and cut short. Nothing is asked. -/
namespace Go.Proofs.YthpkgabckklojaaGreat
open Go.RowKit Go.Shelf

section
variable {X : Ctx} {P : Program} {st : Sto} {H H' : List Chunk} {R : World → Prop} {d : Option Nat} {ty : TypeId} {pos : String} {af : Array Edge} {g : Option (Nat × Bool)}
/-- A slice that is made. -/
theorem jo_makeSlice {x y : Operand} {t T z bytes n : Nat} {kl kc : IntKind} {j : Int} {zv : Value} (hx : opnd st x = some (.int kl j)) (hy : opnd st y = some (.int kc j)) (hj : j = (n : Int)) (ht : P.underlying t = some (.slice T)) (hi : (P.info? T).map (fun i => (i.zero, i.size, i.bytes)) = some (some zv, z, bytes))
    (hb : bytes * n ≤ 281474976710656) (hn : n ≤ 9223372036854775807) :
    JO X P ⟨d, .makeSlice t x y, ty, pos, af, g⟩ st H R (fun b : Nat => .slice (some ⟨b, 0, none⟩) n n) (fun b => ow (.slice (some ⟨b, 0, none⟩) n n) T z n (madeCells zv.cells (n * z)).toList :: H) (fun _ => R) := by
  obtain ⟨i, h1, h2, h3, h4⟩ := info_parts hi
  subst h3 h4 hj
  refine jo_new (.cells (madeCells zv.cells (n * i.size)) T) _ (fun b => ow (.slice (some ⟨b, 0, none⟩) n n) T i.size n (madeCells zv.cells (n * i.size)).toList) (fun a w hs => ?_)
    (fun w => ow_holds ⟨by simp [size_madeCells], .inr ⟨w.heap.size, n, madeCells zv.cells (n * i.size), rfl, Nat.zero_le _, heap_alloc_new w _, Nat.le_refl _, by unfold maxLen; omega, size_madeCells _ _, List.take_of_length_le (by rw [Array.length_toList, size_madeCells]; exact Nat.le_refl _)⟩⟩)
    (fun b x hx => by
      have : (Value.slice (some (⟨b, 0, none⟩ : Addr)) n n).ownBlock = some x := hx
      simpa [Value.ownBlock] using this.symm) (by intro c h; cases h)
  have hr := run_make_rowN (P := P) t T i zv ht h1 h2 kl kc n n (Nat.le_refl _) hb hn w
  simp only [execOp, hs.eval hx, hs.eval hy, Sem.run_bind, hr, Result.andThen_ok, Sem.run_pure]
end
theorem KSl_of_box2 {α : Type} {enc : α → List Value} {xs : List α} {b n : Nat} {cs : List Value} {w : World} (hc : cs = xs.flatMap enc) (hn : n = xs.length) (hm : n ≤ maxLen) (h : Box w b cs) : KSl (some ⟨b, 0, none⟩) n n enc xs w := by
  subst hc
  refine ⟨⟨Nat.le_refl _, hm, fun h => (by cases h), fun _ => ⟨b, 0, rfl, h.lt, fun i c hi => ?_⟩⟩, hn⟩
  have := h.cell i hi
  simpa using this
section
variable {X : Ctx} {P : Program} {st : Sto} {H H' H0 : List Chunk} {R R0 : World → Prop} {k : Kont} {ops : Array Oper} {rest : List Oper} {Q : Exit → Act → World → Prop} {fuel : Nat} {listed : Array Bool} {tl : List Nat}
/-- A small slice that was built is known from now on. -/
theorem JL_lit {α : Type} {enc : α → List Value} {cs : List Value} (b n : Nat) (xs : List α) [hp : BoxPick H b cs H'] (hF : ∀ b, ¬ X.Fp b) (hc : cs = xs.flatMap enc) (hn : n = xs.length) (hm : n ≤ maxLen)
    (h : JL X P ops Q rest st H' (KAnd (KSl (some ⟨b, 0, none⟩) n n enc xs) R)) : JL X P ops Q rest st H R :=
  JL_keep b hF (JL_know (fun _ hw => ⟨KSl_of_box2 hc hn hm hw.1, hw.2⟩) h)
theorem JC_lit {c : Code} {α : Type} {enc : α → List Value} {cs : List Value} (b n : Nat) (xs : List α) [hp : BoxPick H b cs H'] (hF : ∀ b, ¬ X.Fp b) (hc : cs = xs.flatMap enc) (hn : n = xs.length) (hm : n ≤ maxLen)
    (h : JC X P c k st H' (KAnd (KSl (some ⟨b, 0, none⟩) n n enc xs) R)) : JC X P c k st H R :=
  JC_keep b hF (JC_know (fun _ hw => ⟨KSl_of_box2 hc hn hm hw.1, hw.2⟩) h)
theorem JA_lit {α : Type} {enc : α → List Value} {cs : List Value} (b n : Nat) (xs : List α) [hp : BoxPick H b cs H'] [hi : HIn H' H0] (hF : ∀ b, ¬ X.Fp b) (hc : cs = xs.flatMap enc) (hn : n = xs.length) (hm : n ≤ maxLen)
    (h : JA X P ops k tl H0 R0 fuel listed st H' (KAnd (KSl (some ⟨b, 0, none⟩) n n enc xs) R)) : JA X P ops k tl H0 R0 fuel listed st H R := fun hs a w ho => by
  have := pick_of_bx (cs := cs) (H := H) (H' := H') b
  exact h ⟨hi.sub, fun w hw => hs.2 w hw.2⟩ a w ((ho.freeze (c := bx b cs) hF).know fun w hw => ⟨KSl_of_box2 hc hn hm hw.1, hw.2⟩)
end
section
variable {X : Ctx} {P : Program} {st : Sto} {H H' : List Chunk} {R : World → Prop} {k : Kont} {ops : Array Oper} {rest : List Oper} {Q : Exit → Act → World → Prop}
/-- A slice of the call's own that has a record: its form. -/
theorem ok_form {ac : Act} {w : World} {v : Value} {n T z : Nat} {xs : List Value} [hp : OwnAt H v T z n xs H'] (hn : 0 < n) (h : Ok X st H R ac w) : ∃ b cap, v = .slice (some ⟨b, 0, none⟩) n cap := by
  obtain ⟨h1, M, Ds, h2, hm⟩ := h
  obtain ⟨A, B, e1, e2⟩ := hp.ex
  have := (hm.hold (ow v T z n xs) (by rw [e1]; simp)).now
  rcases this.2 with ⟨_, h⟩ | ⟨g, cap', cur, hv, _⟩
  · omega
  · exact ⟨g, cap', hv⟩
theorem JL_form {n T z : Nat} {xs : List Value} (v : Value) [hp : OwnAt H v T z n xs H'] (hn : 0 < n) (h : ∀ b cap, v = .slice (some ⟨b, 0, none⟩) n cap → JL X P ops Q rest st H R) : JL X P ops Q rest st H R := fun ac w ho => by
  obtain ⟨b, cap, e⟩ := ok_form (v := v) hn ho
  exact h b cap e ac w ho
end
end Go.Proofs.YthpkgabckklojaaGreat

/- An operation whose guard was itself passed over. Nothing is asked. -/
namespace Go.Proofs.YthpkgabckklojaaGreat
open Go.RowKit Go.Shelf

section
variable {X : Ctx} {P : Program} {st : Sto} {H H0 : List Chunk} {R R0 : World → Prop} {k : Kont} {ops : Array Oper} {rest : List Oper} {Q : Exit → Act → World → Prop} {fuel : Nat} {listed : Array Bool} {tl : List Nat}
theorem yielded_undef {N : Nat} {a : Act} (hs : StOk N st a) {j d0 : Nat} (hj : dstOf ops j = some d0) (hb : look st d0 = some undef) : yielded ops a.tmps j = none := by
  have h1 := hs.get _ _ hb
  unfold dstOf at hj
  unfold yielded
  rw [hj]
  simp only [Option.bind_some]
  simp only [Array.getD_eq_getD_getElem?] at h1
  cases hq : a.tmps[d0]? with
  | none => rfl
  | some v => rw [hq] at h1; simp at h1; rw [h1]; rfl
/-- A guard that has itself been passed over. -/
theorem JL_skipU {d : Nat} {op : Op} {ty : TypeId} {pos : String} {af : Array Edge} {j d0 : Nat} {want : Bool} (hj : dstOf ops j = some d0) (hb : look st d0 = some undef) (hN : Nat.blt d X.N = true)
    (h : JL X P ops Q rest ((d, undef) :: st) H R) : JL X P ops Q (⟨some d, op, ty, pos, af, some (j, want)⟩ :: rest) st H R := by
  intro a w ⟨hs, M, Ds, hd, hm⟩
  have hy := yielded_undef hs hj hb
  have := h (a.put (some d) undef) w ⟨hs.put (blt_lt hN) _, M, Ds, hd, hm⟩
  rw [wpListIn, if_neg (by simp [Region.wanted, hy])]
  exact ⟨fun f _ => fof_fn _ f, this⟩
theorem JA_skipU {i d : Nat} {op : Op} {ty : TypeId} {pos : String} {af : Array Edge} {j d0 : Nat} {want : Bool} (hi : ops[i]? = some ⟨some d, op, ty, pos, af, some (j, want)⟩) (hgo : mayGo ops listed i = true) (hit : tl.contains i = false) (hN : Nat.blt d X.N = true)
    (hj : dstOf ops j = some d0) (hb : look st d0 = some undef)
    (hn : JA X P ops k tl H0 R0 fuel (listed.setIfInBounds i true) ((d, undef) :: st) H R) : JA X P ops k tl H0 R0 (fuel + 1) listed st H R :=
  ja_firstP (v := undef) hi rfl hgo (by simpa using hit) hN (fun a hs => .inr ⟨by simp [Region.wanted, yielded_undef hs hj hb], rfl⟩) hn
end
/-- A piece that a call only reads. -/
theorem Cx.lend {P : Program} {f : FuncId} {args : List Value} {pre : World → Prop} {v : Value} (c : Chunk) (h : Cv P f args (KAnd c.says pre) v) : Cx P f args [c] pre (fun _ : Unit => v) (fun _ => [c]) (fun _ => KTrue) := by
  intro M w a1 a2 a3 a4
  have hc := a2 c (by simp)
  refine Calls.mono (h (fun b => M b ∧ ¬ c.own b) w (fun b hb => a1 b hb.1) (fun d hd => by cases hd) List.Pairwise.nil fun w' hw => ⟨hc.1.says w' hw.size fun b hb => hw.block b (hc.1.bd b hb) fun h => h.2 hb, a4 w' (hw.weaken fun _ _ h => h.1)⟩) ?_
  rintro e w' ⟨x, M', b1, b2, b3, b4, b5, b6, b7, b8⟩
  have hk : ∀ b, c.own b → w'.heap[b]? = w.heap[b]? := fun b hb => b2.block b (hc.1.bd b hb) fun ⟨d, hd, _⟩ => by cases hd
  refine ⟨x, fun b => M' b ∨ c.own b, b1, b2.weaken (fun _ _ ⟨d, hd, _⟩ => by cases hd), fun b hb => ?_, fun b hb => ?_, fun b hb => ?_, fun d hd => ?_, by simp, fun _ _ => trivial⟩
  · by_cases e : c.own b
    · exact .inr e
    · exact .inl (b3 b ⟨hb, e⟩)
  · rcases hb with hb | hb
    · exact (b4 b hb).imp (fun h => h.1) id
    · exact .inl (hc.2 b hb)
  · rcases hb with hb | hb
    · exact b5 b hb
    · exact Nat.lt_of_lt_of_le (hc.1.bd b hb) b2.size
  · simp only [List.mem_singleton] at hd
    subst hd
    exact ⟨hc.1.later b2.size hk, fun b hb => ⟨.inr hb, .inl ⟨d, by simp, hb⟩⟩⟩
theorem Cx.lendOw {P : Program} {f : FuncId} {α : Type} {enc : α → List Value} {z : Nat} [hz : Rec enc z] {args : Value → List Value} {pre : World → Prop} {v : Value} {T : Nat} (u : Value) (xs : List α) (h : ∀ a cap, Cv P f (args (.slice a xs.length cap)) (KAnd (KSl a xs.length cap enc xs) pre) v) :
    Cx P f (args u) [ow u T z xs.length (xs.flatMap enc)] pre (fun _ : Unit => v) (fun _ => [ow u T z xs.length (xs.flatMap enc)]) (fun _ => KTrue) := by
  intro M w a1 a2 a3 a4
  have hc := a2 _ (List.mem_singleton.2 rfl)
  obtain ⟨a, cap, rfl, _⟩ := ow_sl (enc := enc) (xs := xs) hc.1.now rfl rfl
  refine Cx.lend (ow (.slice a xs.length cap) T z xs.length (xs.flatMap enc)) ((h a cap).mono (fun w hw => ⟨?_, hw.2⟩) fun _ _ h => h) M w a1 a2 a3 a4
  obtain ⟨a', cap', e, h2⟩ := ow_sl (enc := enc) (xs := xs) hw.1 rfl rfl
  cases e
  exact h2
section
variable {X : Ctx} {P : Program} {st : Sto} {H : List Chunk} {R : World → Prop} {d : Option Nat} {ty : TypeId} {pos : String} {af : Array Edge} {g : Option (Nat × Bool)}
theorem det_lookup2KN {κ ν : Type} {x y : Operand} {t K E : TypeId} {b : Nat} {ek : κ → Value} {ev : ν → Value} {m : κ → Option ν} {z : Value} {key : κ} (hk : m key = none) (hx : opnd st x = some (.map (some b))) [hb : MapKn R b κ ν ek ev m] (hy : opnd st y = some (ek key))
    (G : GoodKey P K ek) (hT : P.underlying t = some (.map K E)) (hz : ∀ w, (zeroValue E).run P w = .ok z w) : Det X P ⟨d, .lookup t x y true, ty, pos, af, g⟩ st H R (.tuple #[z, .bool false]) := by
  have := det_lookup2K (X := X) (P := P) (H := H) (R := R) (d := d) (ty := ty) (pos := pos) (af := af) (g := g) key hx hy G hT hz
  rwa [hk] at this
theorem det_lookup2KS {κ ν : Type} {x y : Operand} {t K E : TypeId} {b : Nat} {ek : κ → Value} {ev : ν → Value} {m : κ → Option ν} {z : Value} {key : κ} {v : ν} (hk : m key = some v) (hx : opnd st x = some (.map (some b))) [hb : MapKn R b κ ν ek ev m] (hy : opnd st y = some (ek key))
    (G : GoodKey P K ek) (hT : P.underlying t = some (.map K E)) (hz : ∀ w, (zeroValue E).run P w = .ok z w) : Det X P ⟨d, .lookup t x y true, ty, pos, af, g⟩ st H R (.tuple #[ev v, .bool true]) := by
  have := det_lookup2K (X := X) (P := P) (H := H) (R := R) (d := d) (ty := ty) (pos := pos) (af := af) (g := g) key hx hy G hT hz
  rwa [hk] at this
end
theorem nodup_len {α : Type} [DecidableEq α] : ∀ {l l' : List α}, l.Nodup → (∀ x ∈ l, x ∈ l') → l.length ≤ l'.length
  | [], _, _, _ => Nat.zero_le _
  | a :: l, l', h, hs => by
    have h1 := List.nodup_cons.1 h
    have ha := hs a (by simp)
    have := nodup_len (l := l) (l' := l'.erase a) h1.2 fun x hx => (List.mem_erase_of_ne (fun e => h1.1 (by rw [← e]; exact hx))).2 (hs x (by simp [hx]))
    rw [List.length_erase_of_mem ha] at this
    have : 0 < l'.length := List.length_pos_of_mem ha
    simp only [List.length_cons]; omega
end Go.Proofs.YthpkgabckklojaaGreat

/- A small slice that is handed back. Nothing is asked. -/
namespace Go.Proofs.YthpkgabckklojaaGreat
open Go.RowKit Go.Shelf
section
variable {X : Ctx} {P : Program} {st : Sto} {H H' : List Chunk} {R : World → Prop} {k : Kont}
theorem JE_keep {e : Exit} {cs : List Value} (b : Nat) [hp : BoxPick H b cs H'] (hF : ∀ b, ¬ X.Fp b) (h : JE X P e k st H' (KAnd (KBox b cs) R)) : JE X P e k st H R := by
  have := pick_of_bx (cs := cs) (H := H) (H' := H') b
  exact JE_freeze (bx b cs) hF h
theorem JE_lit {e : Exit} {α : Type} {enc : α → List Value} {cs : List Value} (b n : Nat) (xs : List α) [hp : BoxPick H b cs H'] (hF : ∀ b, ¬ X.Fp b) (hc : cs = xs.flatMap enc) (hn : n = xs.length) (hm : n ≤ maxLen)
    (h : JE X P e k st H' (KAnd (KSl (some ⟨b, 0, none⟩) n n enc xs) R)) : JE X P e k st H R :=
  JE_keep b hF (JE_weak stsub_refl hsub_refl (fun _ hw => ⟨KSl_of_box2 hc hn hm hw.1, hw.2⟩) h)
theorem KSl_none {α : Type} {enc : α → List Value} (w : World) : KSl none 0 0 enc ([] : List α) w := ⟨⟨Nat.le_refl _, by decide, fun _ => ⟨rfl, rfl⟩, fun h => absurd rfl h⟩, rfl⟩
end
end Go.Proofs.YthpkgabckklojaaGreat

/- A whole slice appended; a small slice that can grow. Nothing is asked. -/
namespace Go.Proofs.YthpkgabckklojaaGreat
open Go.RowKit Go.Shelf

section
variable {X : Ctx} {P : Program} {st : Sto} {H H' : List Chunk} {R : World → Prop} {d : Option Nat} {ty : TypeId} {pos : String} {af : Array Edge} {g : Option (Nat × Bool)}
/-- A whole slice that is known, onto a slice of the call's own. -/
theorem jo_appendK {α : Type} {e : α → List Value} {s x : Operand} {t T z n m c : Nat} {v : Value} {xs : List Value} {ys : List α} {ad : Option Addr} [hz : Rec e z] (E : ElemX P t T z) (hs : opnd st s = some v) (hx : opnd st x = some (.slice ad m c)) [ho : OwnAt H v T z n xs H'] [hb : Sees R ad m c α e ys]
    (h1 : ∀ y, (e y).all (·.oneCell') = true) (hn : n + m ≤ 1000000) :
    JO X P ⟨d, .call ⟨.builtin .append, #[s, x], #[t, t]⟩, ty, pos, af, g⟩ st H R (fun p : Value => p) (fun p => ow p T z (n + m) (xs ++ ys.flatMap e) :: H') (fun _ => R) := by
  intro a w M Ds K Q hst hm hK
  obtain ⟨A, B, e1, e2⟩ := ho.ex
  have hsl := hb.see w hm.r
  subst e1 e2
  have hm2 := hm.perm (mid_perm A B _)
  have hown : w.ownsRow 0 T z v n xs := (hm.hold (ow v T z n xs) (by simp)).now
  obtain ⟨bytes, E⟩ := E
  obtain ⟨i, zv, i1, i2, i3, i4, i5⟩ := E.ex
  have hsm := E.small
  obtain ⟨hsl, hmy⟩ := hsl
  have hlen := flatMap_len e z hz.len ys
  have hallone : ∀ u ∈ ys.flatMap e, u.oneCell' = true := fun u hu => by
    obtain ⟨y, _, hy⟩ := List.mem_flatMap.1 hu
    exact List.all_eq_true.1 (h1 y) u hy
  obtain ⟨v', w', r1, r2, r3, r5⟩ : ∃ v' w', (Builtin.append_ #[t, t] ty #[v, .slice ad m c]).run P w = .ok v' w' ∧ w'.ownsRow 0 T z v' (n + m) (xs ++ ys.flatMap e) ∧ w.grownBy w' v.ownBlock ∧ (v'.ownBlock = v.ownBlock ∨ v'.ownBlock = some w.heap.size) := by
    have hcap := hsl.2.1
    have hml := hsl.1
    cases ad with
    | none =>
      obtain ⟨rfl, rfl⟩ := hsl.2.2.1 rfl
      obtain rfl : ys = [] := List.eq_nil_of_length_eq_zero hmy.symm
      exact ⟨v, w, run_append_owned_none (P := P) w 0 t ty T i z E.ht i1 v n xs hown, by simpa using hown, World.grownBy.refl _ _, .inl rfl⟩
    | some ad =>
      obtain ⟨v', w', r1, r2, r3, _, r5⟩ := run_append_own_at (P := P) w 0 t ty T i zv z bytes E.ht i1 i2 i3 i4 i5 E.pos v n xs hown ad m c (ys.flatMap e) (by rw [hlen, hmy])
        (fun j u hu => by
          obtain ⟨b, o, h1, _, hc⟩ := hsl.2.2.2 (fun h => by rw [h] at hu; simp at hu)
          cases h1
          rw [addr_add]; exact hc j u hu) hallone (by have : maxLen = 9223372036854775807 := rfl; omega)
        (by have : (n + m) * bytes ≤ 1000000 * 4096 := Nat.mul_le_mul (by omega) hsm
            omega) (Nat.zero_le _)
      exact ⟨v', w', r1, r2, r3, r5⟩
  refine ⟨fun f _ => fof_fn _ f, ?_⟩
  rw [semAt_plain _ _ _ (by intro c h; cases h)]
  have hrun : (execOp a.eval ⟨d, .call ⟨.builtin .append, #[s, x], #[t, t]⟩, ty, pos, af, g⟩).run P w = .ok (.value v') w' := by
    simp only [execOp, resolve, invoke, builtin, Sem.run_bind, Sem.run_pure, Result.andThen_ok, List.map_toArray, List.map_cons, List.map_nil, hst.eval hs, hst.eval hx, r1]
  rw [hrun]
  refine hK v' w' (fun x => M x ∨ v'.ownBlock = some x) ?_
  have hold := ow_holds r2
  have hmv : Moves (fun x => ∃ c ∈ [ow v T z n xs], c.own x) w w' := ⟨r3.os, r3.tape, r3.output, r3.size, fun k hk hn' => r3.block k hk (fun e => hn' ⟨_, List.mem_singleton.2 rfl, e.symm⟩)⟩
  have := hm2.swap (C' := [ow v' T z (n + m) (xs ++ ys.flatMap e)]) (R' := fun _ => True) (fun x => M x ∨ v'.ownBlock = some x) hmv (fun _ h => .inl h)
    (fun x hx => by
      rcases hx with hx | hx
      · exact .inl hx
      · rcases r5 with r4 | r4
        · exact .inl (hm2.own (ow v T z n xs) (by simp) x (by rw [r4] at hx; exact hx))
        · rw [r4] at hx; cases hx; exact .inr (Nat.le_refl _))
    (fun x hx => by
      rcases hx with hx | hx
      · exact Nat.lt_of_lt_of_le (hm.bd x hx) r3.size
      · exact (World.ownsRow.lt r2 x hx).2)
    (by intro c hc; simp at hc; subst hc; exact hold)
    (by
      intro c hc x hx
      simp at hc; subst hc
      have hx : v'.ownBlock = some x := hx
      refine ⟨.inr hx, ?_⟩
      rcases r5 with r4 | r4
      · exact .inl ⟨ow v T z n xs, by simp, by rw [r4] at hx; exact hx⟩
      · rw [r4] at hx; cases hx; exact .inr (Nat.le_refl _)) (by simp) (fun _ _ => trivial)
  exact this.know fun w h => h.2
/-- A small slice that is built, as one of the call's own that can grow. -/
theorem jo_buildOwn {t T z : TypeId} {n : Nat} {l : List (Nat × Operand)} {vs : List (Nat × Value)} {cs : List Value} (hl : evP st l = some vs)
    (hr : ∀ w, (Instr.buildSlice t n vs.toArray).run P w = .ok (.slice (some ⟨w.heap.size, 0, none⟩) n n) (w.alloc (.cells cs.toArray T))) (hc : cs.length = n * z) (hm : n ≤ maxLen) :
    JO X P ⟨d, .buildSlice t n l.toArray, ty, pos, af, g⟩ st H R (fun b : Nat => .slice (some ⟨b, 0, none⟩) n n) (fun b => ow (.slice (some ⟨b, 0, none⟩) n n) T z n cs :: H) (fun _ => R) :=
  jo_new (.cells cs.toArray T) _ (fun b => ow (.slice (some ⟨b, 0, none⟩) n n) T z n cs) (fun a w hs => by
    have : (l.toArray.map fun (i, x) => (i, a.eval x)) = vs.toArray := by rw [List.map_toArray, hs.evP hl]
    simp only [execOp, this, Sem.run_bind, hr, Result.andThen_ok, Sem.run_pure])
    (fun w => ow_holds ⟨hc, .inr ⟨w.heap.size, n, cs.toArray, rfl, Nat.zero_le _, heap_alloc_new w _, Nat.le_refl _, hm, by simpa using hc, by rw [← hc]; simp⟩⟩)
    (fun b x hx => by
      have : (Value.slice (some (⟨b, 0, none⟩ : Addr)) n n).ownBlock = some x := hx
      simpa [Value.ownBlock] using this.symm) (by intro c h; cases h)
end
section
variable {X : Ctx} {P : Program} {st : Sto} {H : List Chunk} {R : World → Prop} {k : Kont}
/-- A cut by what was turned, that also knows something. -/
theorem JC_cutK {γ : Type} {c1 c2 : Code} (I : γ → Prop) (ov : γ → Sto) (Hv : γ → List Chunk) (Kn : γ → World → Prop) (D0 : List Chunk)
    (h1 : ∀ K : Act → World → Prop, (∀ g, I g → ∀ a w, Ok X (ov g ++ st) (Hv g ++ D0) (KAnd (Kn g) R) a w → K a w) → JC X P c1 (.thenP K k) st H R)
    (h2 : ∀ g, I g → JC X P c2 k (ov g ++ st) (Hv g ++ D0) (KAnd (Kn g) R)) : JC X P c1 (.seq c2 k) st H R :=
  fun a w ho => h1 _ (fun g hg a w ho => h2 g hg a w ho) a w ho
theorem JE_cutK {γ : Type} {I : γ → Prop} {st0 pre : Sto} {ov : γ → Sto} {Hv : γ → List Chunk} {R' : γ → World → Prop} {K : Act → World → Prop} {D0 D' : List Chunk} (hK : ∀ g, I g → ∀ a w, Ok X (ov g ++ st0) (Hv g ++ D0) (R' g) a w → K a w)
    (g : γ) (hI : I g) (hs : StSub st (ov g)) (hH : HTake H (Hv g) D') [ht : Tail st st0 pre] [hd : HIn D' D0] [hR : Knows R (R' g)] (hk : apart (keysOf pre) (keysOf (ov g)) (keysOf st0) = true := by kernel_rfl) : JE X P .normal (.thenP K k) st H R :=
  fun a w ho => hK g hI a w (ho.weak (stsub_over hk hs) (ht_sub hH) hR.know)
end
end Go.Proofs.YthpkgabckklojaaGreat

/- Drawn regions in which only what is known is read; the beginning of a known slice. Nothing is asked. -/
namespace Go.Proofs.YthpkgabckklojaaGreat
open Go.RowKit Go.Shelf
section
variable {X : Ctx} {P : Program} {st : Sto} {H : List Chunk} {R : World → Prop} {k : Kont}
theorem JC_draw0 {id : Nat} {l : List Oper} (hm : P.follows .mixedOrders = true) (h : JA X P l.toArray k [] [] R l.length (Array.replicate l.length false) st H R) : JC X P (.region id l.toArray true) k st H R := by
  intro a w ho
  refine wpIn_mono (Q' := kden X P k) (wpIn_region_any (Q := NoPan (kden X P k)) hm ?_) (fun e a w hq => by cases e <;> first | exact hq | exact hq.elim)
  have := wpAnyIn_of_HI _ _ _ _ (h ⟨hsub_nil, fun _ h => h⟩ a _ ho.drawn)
  simpa using this
variable {d : Option Nat} {ty : TypeId} {pos : String} {af : Array Edge} {g : Option (Nat × Bool)}
theorem det_sliceK {x y : Operand} {t E n cap z : Nat} {a : Option Addr} {q : IntKind} {j : Int} (m : Nat) (hx : opnd st x = some (.slice a n cap)) (hy : opnd st y = some (.int q j)) (hj : j = (m : Int)) (hm : m ≤ cap)
    (hu : ∀ w, (underlying t).run P w = .ok (.slice E) w) (hS : ∀ w, (sizeOf E).run P w = .ok z w) : PDet P ⟨d, .slice t x none (some y) none, ty, pos, af, g⟩ st (.slice a m cap) := fun N ac w hst => by
  subst hj
  have e3 : (0 : Int) ≤ (m : Int) ∧ (m : Int) ≤ (cap : Int) := by omega
  have e0 : ∀ p : Addr, p.add 0 = p := fun p => by cases p; simp [Addr.add]
  have e6 : (if cap = 0 then a else a.map (·.add 0)) = a := by
    split
    · rfl
    · cases a with
      | none => rfl
      | some p => simp [e0]
  simp [execOp, hst.eval hx, hst.eval hy, Instr.sliceAt, Instr.slice, Instr.sliceBounds, Instr.sliceBound, asIntOf, Sem.run_bind, Sem.run_pure, Result.andThen, hu, hS, hm, e6, e3]
theorem KSl_take {α : Type} {enc : α → List Value} {z : Nat} [hz : Rec enc z] {a : Option Addr} {n cap : Nat} {xs : List α} {w : World} (h : KSl a n cap enc xs w) {m : Nat} (hm : m ≤ n) : KSl a m cap enc (xs.take m) w := by
  obtain ⟨⟨h1, h2, h3, h4⟩, h5⟩ := h
  have hfl : (xs.take m).flatMap enc = (xs.flatMap enc).take (m * z) := by
    have e : xs.flatMap enc = (xs.take m).flatMap enc ++ (xs.drop m).flatMap enc := by rw [← List.flatMap_append, List.take_append_drop]
    have hl : ((xs.take m).flatMap enc).length = m * z := by rw [flatMap_len enc z hz.len, List.length_take]; congr 1; omega
    rw [e, List.take_append_of_le_length (Nat.le_of_eq hl.symm), List.take_of_length_le (Nat.le_of_eq hl)]
  refine ⟨⟨by omega, by omega, fun ha => ?_, fun hne => ?_⟩, by rw [List.length_take]; omega⟩
  · have := h3 ha; omega
  · have hne2 : xs.flatMap enc ≠ [] := fun e => hne (by rw [hfl, e]; simp)
    obtain ⟨b, off, q1, q2, q3⟩ := h4 hne2
    refine ⟨b, off, q1, q2, fun i c hi => q3 i c ?_⟩
    rw [hfl, List.getElem?_take] at hi
    split at hi
    · exact hi
    · cases hi
end
end Go.Proofs.YthpkgabckklojaaGreat

/- Shifts; numbers without a sign. Nothing is asked. -/
namespace Go.Proofs.YthpkgabckklojaaGreat
open Go.RowKit Go.Shelf
section
variable {P : Program} {st : Sto} {d : Option Nat} {ty : TypeId} {pos : String} {af : Array Edge} {g : Option (Nat × Bool)}
theorem det_shr {x y : Operand} {t t' : TypeId} {m j : Int} {k q : IntKind} (hx : opnd st x = some (.int k m)) (hy : opnd st y = some (.int q j)) (h : 0 ≤ j) : PDet P ⟨d, .binOp .shr t x y t', ty, pos, af, g⟩ st (.int k (m.fdiv (2 ^ min j.toNat k.bits))) := fun N a w hs => by
  have h2 : ¬ j < 0 := by omega
  simp [execOp, hs.eval hx, hs.eval hy, eqGuard, binOp, Op.shift, h2]
theorem det_shl {x y : Operand} {t t' : TypeId} {m j : Int} {q : IntKind} (hx : opnd st x = some (.int .i64 m)) (hy : opnd st y = some (.int q j)) (h : 0 ≤ j) (hi : InI (m * 2 ^ min j.toNat 64)) : PDet P ⟨d, .binOp .shl t x y t', ty, pos, af, g⟩ st (.int .i64 (m * 2 ^ min j.toNat 64)) := fun N a w hs => by
  have h2 : ¬ j < 0 := by omega
  have hb : IntKind.i64.bits = 64 := rfl
  simp [execOp, hs.eval hx, hs.eval hy, eqGuard, binOp, Op.shift, h2, hb, i64_wrap hi]
end
theorem u64_wrap {n : Int} (h : 0 ≤ n ∧ n ≤ 18446744073709551615) : IntKind.u64.wrap n = n := by
  simp [IntKind.wrap, IntKind.bits, IntKind.signed]; omega
end Go.Proofs.YthpkgabckklojaaGreat

/- A cut of a part that is not followed by another one in its own place. Nothing is asked. -/
namespace Go.Proofs.YthpkgabckklojaaGreat
open Go.RowKit Go.Shelf
section
variable {X : Ctx} {P : Program} {st : Sto} {H : List Chunk} {R : World → Prop} {k : Kont}
theorem JC_cutE {γ : Type} {c : Code} (I : γ → Prop) (ov : γ → Sto) (Hv : γ → List Chunk) (Kn : γ → World → Prop) (D0 : List Chunk)
    (h1 : ∀ K : Act → World → Prop, (∀ g, I g → ∀ a w, Ok X (ov g ++ st) (Hv g ++ D0) (KAnd (Kn g) R) a w → K a w) → JC X P c (.thenP K k) st H R)
    (h2 : ∀ g, I g → JE X P .normal k (ov g ++ st) (Hv g ++ D0) (KAnd (Kn g) R)) : JC X P c k st H R := fun a w ho =>
  wpIn_mono (Q' := kden X P k) (h1 (kden X P k .normal) (fun g hg a w ho => h2 g hg a w ho) a w ho) fun e a w hq => by cases e <;> exact hq
end
end Go.Proofs.YthpkgabckklojaaGreat

/- The end of a known slice. Nothing is asked. -/
namespace Go.Proofs.YthpkgabckklojaaGreat
open Go.RowKit Go.Shelf
/-- The address behind s[k:]. -/
def dropA (a : Option Addr) (k cap z : Nat) : Option Addr := if cap = k then a else a.map (·.add (k * z))
section
variable {X : Ctx} {P : Program} {st : Sto} {H : List Chunk} {R : World → Prop}
variable {d : Option Nat} {ty : TypeId} {pos : String} {af : Array Edge} {g : Option (Nat × Bool)}
theorem det_sliceF {x y : Operand} {t E n cap z : Nat} {a : Option Addr} {q : IntKind} {j : Int} (m : Nat) (hx : opnd st x = some (.slice a n cap)) (hy : opnd st y = some (.int q j)) (hj : j = (m : Int)) (hm : m ≤ n)
    (hu : ∀ w, (underlying t).run P w = .ok (.slice E) w) (hS : ∀ w, (sizeOf E).run P w = .ok z w) : PDet P ⟨d, .slice t x (some y) none none, ty, pos, af, g⟩ st (.slice (dropA a m cap z) (n - m) (cap - m)) := fun N ac w hst => by
  subst hj
  have e3 : (0 : Int) ≤ (m : Int) ∧ (m : Int) ≤ (n : Int) := by omega
  simp [execOp, hst.eval hx, hst.eval hy, Instr.sliceAt, Instr.slice, Instr.sliceBounds, Instr.sliceBound, asIntOf, Sem.run_bind, Sem.run_pure, Result.andThen, hu, hS, hm, e3, dropA]
theorem KSl_drop {α : Type} {enc : α → List Value} {z : Nat} [hz : Rec enc z] {a : Option Addr} {n cap : Nat} {xs : List α} {w : World} (h : KSl a n cap enc xs w) {m : Nat} (hm : m ≤ n) : KSl (dropA a m cap z) (n - m) (cap - m) enc (xs.drop m) w := by
  obtain ⟨⟨h1, h2, h3, h4⟩, h5⟩ := h
  have hl : ((xs.take m).flatMap enc).length = m * z := by rw [flatMap_len enc z hz.len, List.length_take]; congr 1; omega
  have e : xs.flatMap enc = (xs.take m).flatMap enc ++ (xs.drop m).flatMap enc := by rw [← List.flatMap_append, List.take_append_drop]
  refine ⟨⟨by omega, by omega, fun ha => ?_, fun hne => ?_⟩, by rw [List.length_drop]; omega⟩
  · have ha2 : a = none := by
      unfold dropA at ha
      split at ha
      · exact ha
      · cases a with
        | none => rfl
        | some p => cases ha
    have := h3 ha2; omega
  · have hne2 : xs.flatMap enc ≠ [] := fun e2 => by
      rw [e] at e2
      exact hne (List.append_eq_nil_iff.1 e2).2
    have hd : xs.drop m ≠ [] := fun e2 => hne (by rw [e2]; rfl)
    have hlt : m < xs.length := by
      apply Classical.byContradiction
      intro hge
      exact hd (List.drop_eq_nil_of_le (by omega))
    obtain ⟨b, off, q1, q2, q3⟩ := h4 hne2
    refine ⟨b, off + m * z, ?_, q2, fun i c hi => ?_⟩
    · unfold dropA
      rw [if_neg (by omega), q1]
      simp [Addr.add]
    · have := q3 (m * z + i) c (by rw [e, List.getElem?_append_right (by omega), hl, Nat.add_sub_cancel_left]; exact hi)
      rwa [← Nat.add_assoc] at this
end
end Go.Proofs.YthpkgabckklojaaGreat

/- The form of a slice of the call's own. Nothing is asked. -/
namespace Go.Proofs.YthpkgabckklojaaGreat
open Go.RowKit Go.Shelf
section
variable {X : Ctx} {P : Program} {st : Sto} {H H' : List Chunk} {R : World → Prop} {k : Kont}
theorem ok_formS {ac : Act} {w : World} {v : Value} {n T z : Nat} {xs : List Value} [hp : OwnAt H v T z n xs H'] (h : Ok X st H R ac w) : ∃ a cap, v = .slice a n cap := by
  obtain ⟨h1, M, Ds, h2, hm⟩ := h
  obtain ⟨A, B, e1, e2⟩ := hp.ex
  have := (hm.hold (ow v T z n xs) (by rw [e1]; simp)).now
  rcases this.2 with ⟨h2, h3⟩ | ⟨g, cap', cur, hv, _⟩
  · exact ⟨none, 0, by rw [h2, h3]⟩
  · exact ⟨_, cap', hv⟩
theorem JC_formS {c : Code} {n T z : Nat} {xs : List Value} (v : Value) [hp : OwnAt H v T z n xs H'] (h : ∀ a cap, v = .slice a n cap → JC X P c k st H R) : JC X P c k st H R := fun ac w ho => by
  obtain ⟨a, cap, e⟩ := ok_formS (v := v) ho
  exact h a cap e ac w ho
end
end Go.Proofs.YthpkgabckklojaaGreat

/- A grid: rows of cells of the call's own, as 'make([][]T, n)' and a row made for each. Nothing is asked. -/
namespace Go.Proofs.YthpkgabckklojaaGreat
open Go.RowKit Go.Shelf

/-- Rows of the call's own: where each lies, and what it holds. -/
def grd (bs : List Nat) (F : Nat → List Value) : Chunk := ⟨(· ∈ bs), fun w => bs.Nodup ∧ ∀ i b, bs[i]? = some b → Box w b (F i)⟩
theorem grd_holds {bs : List Nat} {F : Nat → List Value} {w : World} (h : (grd bs F).says w) : (grd bs F).holds w := by
  refine ⟨fun b hb => ?_, fun w' _ he => ⟨h.1, fun i b hb => ?_⟩⟩
  · obtain ⟨i, hi, e⟩ := List.getElem_of_mem (show b ∈ bs from hb)
    exact (h.2 i b (by rw [List.getElem?_eq_getElem hi, e])).lt
  · obtain ⟨T, h2⟩ := h.2 i b hb
    exact ⟨T, (he b (show b ∈ bs from List.mem_of_getElem? hb)).trans h2⟩
theorem grd_congr {bs : List Nat} {F F' : Nat → List Value} (h : ∀ i, i < bs.length → F i = F' i) : grd bs F = grd bs F' := by
  unfold grd
  congr 1
  funext w
  refine propext (and_congr Iff.rfl (forall_congr' fun i => forall_congr' fun b => ⟨fun h2 hb => ?_, fun h2 hb => ?_⟩))
  · rw [← h i (List.getElem?_eq_some_iff.1 hb).1]; exact h2 hb
  · rw [h i (List.getElem?_eq_some_iff.1 hb).1]; exact h2 hb
class GrdAt (H : List Chunk) (bs : outParam (List Nat)) (F : outParam (Nat → List Value)) : Prop where
  mem : grd bs F ∈ H
instance (H : List Chunk) (bs : List Nat) (F : Nat → List Value) : GrdAt (grd bs F :: H) bs F := ⟨List.mem_cons_self ..⟩
instance (H : List Chunk) (bs : List Nat) (F : Nat → List Value) (c : Chunk) [h : GrdAt H bs F] : GrdAt (c :: H) bs F := ⟨List.mem_cons_of_mem _ h.mem⟩
class GrdPick (H : List Chunk) (bs : outParam (List Nat)) (F : outParam (Nat → List Value)) (H' : outParam (List Chunk)) : Prop where
  perm : H.Perm (grd bs F :: H')
instance (H : List Chunk) (bs : List Nat) (F : Nat → List Value) : GrdPick (grd bs F :: H) bs F H := ⟨List.Perm.refl _⟩
instance (H H' : List Chunk) (bs : List Nat) (F : Nat → List Value) (c : Chunk) [h : GrdPick H bs F H'] : GrdPick (c :: H) bs F (c :: H') := ⟨(h.perm.cons c).trans (List.Perm.swap _ _ _)⟩
instance (A B B' : List Chunk) (bs : List Nat) (F : Nat → List Value) [h : GrdPick B bs F B'] : GrdPick (A ++ B) bs F (A ++ B') := ⟨(h.perm.append_left A).trans List.perm_middle⟩
theorem ht_grd {H H' L D : List Chunk} {bs : List Nat} {F F' : Nat → List Value} [h : GrdPick H bs F H'] (e : ∀ i, i < bs.length → F i = F' i) (h2 : HTake H' L D) : HTake H (grd bs F' :: L) D := by
  rw [← grd_congr e]; exact h.perm.trans (List.Perm.cons _ h2)
theorem Mem.merge {X : Ctx} {M : Nat → Prop} {Ds : List Nat} {H : List Chunk} {R : World → Prop} {w : World} {c d e : Chunk} (h : Mem X M Ds (c :: d :: H) R w) (ho : ∀ b, e.own b → c.own b ∨ d.own b) (hh : e.holds w) : Mem X M Ds (e :: H) R w := by
  have hp := List.pairwise_cons.1 h.dis
  have hp2 := List.pairwise_cons.1 hp.2
  refine ⟨h.bd, fun x hx => ?_, fun x hx b hb => ?_, fun x hx b hb => ?_, List.pairwise_cons.2 ⟨fun x hx b hb hxb => ?_, hp2.2⟩, h.keep, h.mv, h.m0, h.m1, h.mks, h.mkM, fun D hD x hx hxD => ?_, h.m2, h.mk0⟩
  · rcases List.mem_cons.1 hx with rfl | hx
    · exact hh
    · exact h.hold x (by simp [hx])
  · rcases List.mem_cons.1 hx with rfl | hx
    · rcases ho b hb with hb | hb
      · exact h.own c (by simp) b hb
      · exact h.own d (by simp) b hb
    · exact h.own x (by simp [hx]) b hb
  · rcases List.mem_cons.1 hx with rfl | hx
    · rcases ho b hb with hb | hb
      · exact h.fp c (by simp) b hb
      · exact h.fp d (by simp) b hb
    · exact h.fp x (by simp [hx]) b hb
  · rcases ho b hb with hb | hb
    · exact hp.1 x (by simp [hx]) b hb hxb
    · exact hp2.1 x hx b hb hxb
  · rcases List.mem_cons.1 hx with rfl | hx
    · rcases ho D hxD with hb | hb
      · exact h.mkH D hD c (by simp) hb
      · exact h.mkH D hD d (by simp) hb
    · exact h.mkH D hD x (by simp [hx]) hxD
theorem Mem.more {X : Ctx} {M : Nat → Prop} {Ds : List Nat} {H : List Chunk} {R : World → Prop} {w : World} {e : Chunk} (h : Mem X M Ds H R w) (ho : ∀ b, ¬ e.own b) (hh : e.holds w) : Mem X M Ds (e :: H) R w := by
  refine ⟨h.bd, fun x hx => ?_, fun x hx b hb => ?_, fun x hx b hb => ?_, List.pairwise_cons.2 ⟨fun x hx b hb hxb => ho b hb, h.dis⟩, h.keep, h.mv, h.m0, h.m1, h.mks, h.mkM, fun D hD x hx hxD => ?_, h.m2, h.mk0⟩
  · rcases List.mem_cons.1 hx with rfl | hx
    · exact hh
    · exact h.hold x hx
  · rcases List.mem_cons.1 hx with rfl | hx
    · exact absurd hb (ho b)
    · exact h.own x hx b hb
  · rcases List.mem_cons.1 hx with rfl | hx
    · exact absurd hb (ho b)
    · exact h.fp x hx b hb
  · rcases List.mem_cons.1 hx with rfl | hx
    · exact ho D hxD
    · exact h.mkH D hD x hx hxD
section
variable {X : Ctx} {P : Program} {st : Sto} {H H' H1 H2 : List Chunk} {R : World → Prop} {k : Kont}
theorem JC_grd0 {c : Code} (F : Nat → List Value) (h : JC X P c k st (grd [] F :: H) R) : JC X P c k st H R := fun a w ho => by
  obtain ⟨h1, M, Ds, h2, hm⟩ := ho
  exact h a w ⟨h1, M, Ds, h2, hm.more (fun b hb => by cases hb) (grd_holds ⟨List.nodup_nil, fun i b hb => by simp at hb⟩)⟩
/-- A row that was made goes to the others. -/
theorem JE_grdAdd {e : Exit} {T z n : Nat} {xs : List Value} {bs : List Nat} {F : Nat → List Value} (b : Nat) (F' : Nat → List Value) [hp : RowPick H b T z n n xs H1] [hg : GrdPick H1 bs F H2] (h1 : ∀ i, i < bs.length → F i = F' i) (h2 : xs = F' bs.length)
    (h : JE X P e k st (grd (bs ++ [b]) F' :: H2) R) : JE X P e k st H R := fun a w ho => by
  obtain ⟨q1, M, Ds, q2, hm⟩ := ho
  have hm2 := (hm.perm hp.perm).perm (hg.perm.cons _)
  have hrow := (hm2.hold _ (List.mem_cons_self ..)).now
  have hgr := (hm2.hold (grd bs F) (by simp)).now
  have hdis := (List.pairwise_cons.1 hm2.dis).1 (grd bs F) (by simp)
  obtain ⟨hxl, hrow⟩ := hrow
  have hbox : Box w b xs := by
    rcases hrow with ⟨h, _⟩ | ⟨g', cap', cur, hv', h3, h4, h5, h6, h7, h8⟩
    · cases h
    · cases hv'
      refine ⟨T, ?_⟩
      rw [h4, ← h8, List.take_of_length_le (by rw [Array.length_toList, h7]; exact Nat.le_refl _)]
  have hbn : b ∉ bs := fun hb => hdis b (show (Value.slice (some (⟨b, 0, none⟩ : Addr)) n n).ownBlock = some b from rfl) hb
  refine h a w ⟨q1, M, Ds, q2, hm2.merge (fun x hx => ?_) (grd_holds ⟨?_, fun i x hx => ?_⟩)⟩
  · rcases List.mem_append.1 (show x ∈ bs ++ [b] from hx) with hx | hx
    · exact .inr hx
    · rw [List.mem_singleton.1 hx]; exact .inl rfl
  · exact List.nodup_append.2 ⟨hgr.1, by simp, fun x hx y hy e => hbn (by rw [← List.mem_singleton.1 hy, ← e]; exact hx)⟩
  · by_cases hi : i < bs.length
    · rw [List.getElem?_append_left hi] at hx
      rw [← h1 i hi]
      exact hgr.2 i x hx
    · rw [List.getElem?_append_right (by omega)] at hx
      have hi2 : i - bs.length = 0 := by
        apply Classical.byContradiction
        intro hne
        rw [List.getElem?_eq_none (by simp; omega)] at hx
        cases hx
      rw [hi2] at hx
      simp only [List.getElem?_cons_zero, Option.some.injEq] at hx
      subst hx
      rw [show i = bs.length by omega, ← h2]
      exact hbox
variable {d : Option Nat} {ty : TypeId} {pos : String} {af : Array Edge} {g : Option (Nat × Bool)}
theorem det_loadG {x : Operand} {t b off m : Nat} {bs : List Nat} {F : Nat → List Value} {vs : List Value} (i : Nat) (hx : opnd st x = some (.pointer (some ⟨b, off, none⟩))) [hb : GrdAt H bs F] (hi : bs[i]? = some b) (hA : ∀ w, (isAgg t).run P w = .ok true w) (hS : ∀ w, (sizeOf t).run P w = .ok m w) (hv : ((F i).drop off).take m = vs) (hm' : vs.length = m) :
    Det X P ⟨d, .load t x, ty, pos, af, g⟩ st H R (.agg vs.toArray) := fun ac w M Ds hst hm => by
  have hbx := (hm.hold _ hb.mem).now.2 i b hi
  have hr := cells_run (P := P) hbx off m vs hv hm'
  simp [execOp, hst.eval hx, Instr.loadAt, Instr.sureAddr, loadVar, Sem.run_bind, hA, hS, Result.andThen, hr]
theorem jo_storeG {x y : Operand} {t b off : Nat} {bs : List Nat} {F : Nat → List Value} {vs : List Value} {v : Value} (i : Nat) (F' : Nat → List Value) (hx : opnd st x = some (.pointer (some ⟨b, off, none⟩))) (hy : opnd st y = some v) (hv : v.cells = vs.toArray) [hp : GrdPick H bs F H'] (hi : bs[i]? = some b)
    (hcs : splice (F i) off vs = F' i) (hF : ∀ j, j ≠ i → j < bs.length → F j = F' j) (hS : ∀ w, (sizeOf t).run P w = .ok vs.length w) (hl : off + vs.length ≤ (F i).length) (h1 : vs.all (·.oneCell') = true) :
    JO X P ⟨d, .store t x y, ty, pos, af, g⟩ st H R (fun _ : Unit => undef) (fun _ => grd bs F' :: H') (fun _ => R) := by
  intro a w M Ds K Q hs hm hK
  have hm2 := hm.perm hp.perm
  have hgr := (hm2.hold (grd bs F) (by simp)).now
  have hbx := hgr.2 i b hi
  obtain ⟨w', r1, r2, r3, r4⟩ := storeVar_run (P := P) hbx t off v hv hS hl h1
  refine ⟨fun f _ => fof_fn _ f, ?_⟩
  rw [semAt_plain _ _ _ (by intro c h; cases h)]
  have hrun : (execOp a.eval ⟨d, .store t x y, ty, pos, af, g⟩).run P w = .ok .skip w' := by
    simp [execOp, hs.eval hx, hs.eval hy, Instr.storeAt, Instr.sureAddr, Sem.run_bind, r1, Result.andThen]
  rw [hrun]
  have hmem : b ∈ bs := List.mem_of_getElem? hi
  have hnew : (grd bs F').says w' := by
    refine ⟨hgr.1, fun j x hq => ?_⟩
    by_cases e : x = b
    · subst e
      have hji : j = i := by
        obtain ⟨l1, e1⟩ := List.getElem?_eq_some_iff.1 hq
        obtain ⟨l2, e2⟩ := List.getElem?_eq_some_iff.1 hi
        exact (List.getElem_inj hgr.1).1 (e1.trans e2.symm)
      subst hji
      rw [← hcs]; exact r2
    · have hji : j ≠ i := fun e2 => e (by subst e2; rw [hq] at hi; exact Option.some.inj hi)
      rw [← hF j hji (List.getElem?_eq_some_iff.1 hq).1]
      obtain ⟨T, hT⟩ := hgr.2 j x hq
      refine ⟨T, ?_⟩
      have hlt : x < w.heap.size := (show Box w x (F j) from ⟨T, hT⟩).lt
      exact (r3.block x hlt e).trans hT
  refine hK () w' M ?_
  have := hm2.swap (C := [grd bs F]) (D := H') (C' := [grd bs F']) (R' := fun _ => True) M (r3.weaken fun j _ hj => ⟨grd bs F, by simp, by cases hj; exact hmem⟩) (fun _ h => h) (fun _ h => .inl h)
    (fun b hb => by rw [r4]; exact hm.bd b hb) (by intro c hc; simp at hc; subst hc; exact grd_holds hnew)
    (by
      intro c hc b' hb'
      simp at hc; subst hc
      exact ⟨hm2.own _ (List.mem_cons_self ..) _ hb', .inl ⟨grd bs F, by simp, hb'⟩⟩) (by simp) (fun _ _ => trivial)
  exact this.know fun w h => h.2
end
end Go.Proofs.YthpkgabckklojaaGreat

/- Plain functions on balls, lanes and pockets: what the walks say the Go functions compute. No program stands here. -/
import Derived.Test.YtcfhbnfincpehaaKit
namespace Go.Proofs.Ytcfhbnfincpehaa
open Go.RowKit

structure Rg where
  lo : Int
  hi : Int
  deriving DecidableEq
structure Pa where
  rows : Rg
  boards : Rg
  level : Int
  deriving DecidableEq
structure La where
  boards : Int
  rows : Int
  hooks : List Rg
  patches : List Pa
  deriving DecidableEq
structure St where
  b : Int
  d : Int
  deriving DecidableEq
structure Pk where
  boards : Rg
  dirs : Rg
  deriving DecidableEq
instance : Inhabited Rg := ⟨⟨0, 0⟩⟩
instance : Inhabited St := ⟨⟨0, 0⟩⟩
instance : Inhabited Pa := ⟨⟨default, default, 0⟩⟩

def encRg (r : Rg) : List Value := [I r.lo, I r.hi]
theorem encRg_len (r : Rg) : (encRg r).length = 2 := rfl
def encPa (p : Pa) : List Value := [I p.rows.lo, I p.rows.hi, I p.boards.lo, I p.boards.hi, I p.level]
theorem encPa_len (p : Pa) : (encPa p).length = 5 := rfl
def encSt (s : St) : List Value := [I s.b, I s.d]
theorem encSt_len (s : St) : (encSt s).length = 2 := rfl
def encI (n : Int) : List Value := [I n]
theorem encI_len (n : Int) : (encI n).length = 1 := rfl

/-- Is a number in a range? -/
def inR (n : Int) (r : Rg) : Bool := decide (r.lo ≤ n ∧ n ≤ r.hi)
def okRg (r : Rg) (lo hi : Int) : Bool := decide (lo ≤ r.lo ∧ r.lo ≤ r.hi ∧ r.hi ≤ hi)
def okPa (l : La) (p : Pa) : Bool := okRg p.rows 0 (l.rows - 1) && okRg p.boards 1 l.boards && decide (0 ≤ p.level ∧ p.level ≤ (l.hooks.length : Int) - 1)

/-- The error of a lane. -/
def fault (l : La) : Int :=
  if 8 < l.patches.length ∨ 4 < l.hooks.length then 3 else
  if ¬ (1 ≤ l.boards ∧ l.boards ≤ 40) ∨ ¬ (1 ≤ l.rows ∧ l.rows ≤ 12) ∨ l.hooks.length = 0 then 1 else
  if l.hooks.all (fun h => okRg h (-3) 3) = false then 1 else
  if l.patches.all (okPa l) = false then 1 else 0

structure Valid (l : La) : Prop where
  np : l.patches.length ≤ 8
  nh : l.hooks.length ≤ 4
  b1 : 1 ≤ l.boards
  b2 : l.boards ≤ 40
  r1 : 1 ≤ l.rows
  r2 : l.rows ≤ 12
  h0 : 0 < l.hooks.length
  hk : ∀ h ∈ l.hooks, -3 ≤ h.lo ∧ h.lo ≤ h.hi ∧ h.hi ≤ 3
  pk : ∀ p ∈ l.patches, (0 ≤ p.rows.lo ∧ p.rows.lo ≤ p.rows.hi ∧ p.rows.hi ≤ l.rows - 1) ∧ (1 ≤ p.boards.lo ∧ p.boards.lo ≤ p.boards.hi ∧ p.boards.hi ≤ l.boards) ∧ 0 ≤ p.level ∧ p.level ≤ (l.hooks.length : Int) - 1

theorem fault_valid {l : La} (h : fault l = 0) : Valid l := by
  unfold fault at h
  split at h
  · omega
  · split at h
    · omega
    · split at h
      · omega
      · split at h
        · omega
        · rename_i h1 h2 h3 h4
          simp only [Bool.not_eq_false, List.all_eq_true] at h3 h4
          refine ⟨by omega, by omega, by omega, by omega, by omega, by omega, by omega, fun x hx => by simpa [okRg] using h3 x hx, fun x hx => ?_⟩
          have := h4 x hx
          simp [okPa, okRg] at this
          omega

theorem valid_fault {l : La} (h : Valid l) : fault l = 0 := by
  obtain ⟨h1, h2, h3, h4, h5, h6, h7, h8, h9⟩ := h
  unfold fault
  rw [if_neg (by omega), if_neg (by omega), if_neg, if_neg]
  · simp only [Bool.not_eq_false, List.all_eq_true]
    intro x hx
    have := h9 x hx
    simp [okPa, okRg]
    omega
  · simp only [Bool.not_eq_false, List.all_eq_true]
    intro x hx
    have := h8 x hx
    simp [okRg]
    omega

def isStart (l : La) (s : St) : Bool := decide (1 ≤ s.b ∧ s.b ≤ l.boards ∧ -5 ≤ s.d ∧ s.d ≤ 5)
def isPocket (p : Pk) : Bool := decide (p.boards.lo ≤ p.boards.hi ∧ p.dirs.lo ≤ p.dirs.hi)
def onL (l : La) (s : St) : Bool := decide (1 ≤ s.b ∧ s.b ≤ l.boards)

/-- The level of a board in a row, of the patches told so far; the hooks. -/
def levelOf (ps : List Pa) (row board : Int) : Int :=
  ps.foldl (fun lv p => if inR row p.rows && inR board p.boards then p.level else lv) 0
def hookOf (l : La) (row board : Int) : Rg := l.hooks.getD (levelOf l.patches row board).toNat default
def clamp (n : Int) : Int := max (-5) (min 5 n)
def nextS (s : St) (t : Int) : St := ⟨s.b + clamp (s.d + t), clamp (s.d + t)⟩

def verdict (n m : Int) : Int := if n = 0 then 0 else if n = m then 2 else 1
def lessS (s t : St) : Bool := decide (s.b < t.b ∨ s.b = t.b ∧ s.d < t.d)

theorem clamp_bd (n : Int) : -5 ≤ clamp n ∧ clamp n ≤ 5 := by unfold clamp; omega

theorem levelOf_snoc (ps : List Pa) (p : Pa) (row board : Int) : levelOf (ps ++ [p]) row board = if inR row p.rows && inR board p.boards then p.level else levelOf ps row board := by
  unfold levelOf; rw [List.foldl_append]; rfl

theorem levelOf_bd {l : La} (h : Valid l) (row board : Int) : 0 ≤ levelOf l.patches row board ∧ levelOf l.patches row board ≤ (l.hooks.length : Int) - 1 := by
  have key : ∀ (ps : List Pa) (a : Int), (0 ≤ a ∧ a ≤ (l.hooks.length : Int) - 1) → (∀ p ∈ ps, 0 ≤ p.level ∧ p.level ≤ (l.hooks.length : Int) - 1) →
      0 ≤ ps.foldl (fun lv p => if inR row p.rows && inR board p.boards then p.level else lv) a ∧ ps.foldl (fun lv p => if inR row p.rows && inR board p.boards then p.level else lv) a ≤ (l.hooks.length : Int) - 1 := by
    intro ps
    induction ps with
    | nil => intro a ha _; exact ha
    | cons p ps ih =>
      intro a ha hp
      rw [List.foldl_cons]
      refine ih _ ?_ (fun q hq => hp q (by simp [hq]))
      split
      · exact hp p (by simp)
      · exact ha
  refine key l.patches 0 ⟨by omega, ?_⟩ (fun p hp => (h.pk p hp).2.2)
  have := h.h0
  omega

theorem hookOf_mem {l : La} (h : Valid l) (row board : Int) : hookOf l row board ∈ l.hooks := by
  have := levelOf_bd h row board
  unfold hookOf
  rw [List.getD_eq_getElem?_getD, List.getElem?_eq_getElem (by omega)]
  simp

theorem hookOf_bd {l : La} (h : Valid l) (row board : Int) : -3 ≤ (hookOf l row board).lo ∧ (hookOf l row board).lo ≤ (hookOf l row board).hi ∧ (hookOf l row board).hi ≤ 3 := h.hk _ (hookOf_mem h row board)

/-- The levels, while a patch is being laid: up to (r, c). -/
def painted (ps : List Pa) (p : Pa) (r c : Int) (row board : Int) : Int :=
  if inR row p.rows && inR board p.boards && decide (row < r ∨ row = r ∧ board < c) then p.level else levelOf ps row board
theorem painted_start (ps : List Pa) (p : Pa) (row board : Int) : painted ps p p.rows.lo p.boards.lo row board = levelOf ps row board := by
  unfold painted; rw [if_neg]; simp [inR]; omega
theorem painted_row (ps : List Pa) (p : Pa) (r c : Int) (hc : c = p.boards.hi + 1) (row board : Int) : painted ps p r c row board = painted ps p (r + 1) p.boards.lo row board := by
  unfold painted
  have : (inR row p.rows && inR board p.boards && decide (row < r ∨ row = r ∧ board < c)) = (inR row p.rows && inR board p.boards && decide (row < r + 1 ∨ row = r + 1 ∧ board < p.boards.lo)) := by
    rw [Bool.eq_iff_iff]; simp [inR]; omega
  rw [this]
theorem painted_end (ps : List Pa) (p : Pa) (r c : Int) (hr : r = p.rows.hi + 1) (row board : Int) : painted ps p r c row board = levelOf (ps ++ [p]) row board := by
  rw [levelOf_snoc]
  unfold painted
  have : (inR row p.rows && inR board p.boards && decide (row < r ∨ row = r ∧ board < c)) = (inR row p.rows && inR board p.boards) := by
    rw [Bool.eq_iff_iff]; simp [inR]; omega
  rw [this]
theorem painted_step (ps : List Pa) (p : Pa) (r c : Int) (h1 : inR r p.rows = true) (h2 : inR c p.boards = true) (row board : Int) :
    painted ps p r (c + 1) row board = if row = r ∧ board = c then p.level else painted ps p r c row board := by
  unfold painted
  simp [inR] at h1 h2
  by_cases h : row = r ∧ board = c
  · rw [if_pos h, if_pos]; simp [inR]; omega
  · rw [if_neg h]
    have : (inR row p.rows && inR board p.boards && decide (row < r ∨ row = r ∧ board < c + 1)) = (inR row p.rows && inR board p.boards && decide (row < r ∨ row = r ∧ board < c)) := by
      rw [Bool.eq_iff_iff]; simp [inR]; omega
    rw [this]

/-- A grid of 41 numbers a row, in cells. -/
def GridOf (cs : List Value) (R : Nat) (f : Int → Int → Int) : Prop := cs.length = R * 41 ∧ ∀ r c : Nat, r < R → c < 41 → cs[r * 41 + c]? = some (I (f r c))
theorem GridOf.congr {cs : List Value} {R : Nat} {f g : Int → Int → Int} (h : GridOf cs R f) (e : ∀ row board, f row board = g row board) : GridOf cs R g :=
  ⟨h.1, fun r c hr hc => by rw [h.2 r c hr hc, e]⟩
theorem GridOf.zero (R : Nat) : GridOf (List.replicate (R * 41) (I 0)) R (levelOf []) :=
  ⟨by simp, fun r c hr hc => by rw [List.getElem?_replicate, if_pos (by omega)]; rfl⟩
theorem GridOf.set {cs : List Value} {R : Nat} {f : Int → Int → Int} (h : GridOf cs R f) (r c : Nat) (hr : r < R) (hc : c < 41) (v : Int) :
    GridOf (cs.set (r * 41 + c) (I v)) R (fun row board => if row = r ∧ board = c then v else f row board) := by
  refine ⟨by rw [List.length_set]; exact h.1, fun r' c' hr' hc' => ?_⟩
  rw [List.getElem?_set]
  by_cases e : r' = r ∧ c' = c
  · obtain ⟨rfl, rfl⟩ := e
    rw [if_pos rfl, if_pos (by rw [h.1]; omega)]
    simp
  · rw [if_neg (by omega), h.2 r' c' hr' hc']
    simp only
    rw [if_neg (by omega)]

/-- The error of a lane with a start. -/
def startErr (l : La) (s : St) : Int := if fault l ≠ 0 then fault l else if isStart l s then 0 else 2

end Go.Proofs.Ytcfhbnfincpehaa

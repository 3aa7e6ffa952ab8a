/- slices.SortFunc at states. -/
import Derived.Test.YtcfhbnfincpehaaPathH
namespace Go.Proofs.Ytcfhbnfincpehaa
open Go.RowKit Go.Shelf Go.Proofs Go.Lib
open Go.Sort hiding Below

def okSt (s : St) : Prop := -1000 ≤ s.b ∧ s.b ≤ 1000 ∧ -5 ≤ s.d ∧ s.d ≤ 5
abbrev BSt := { s : St // okSt s }
instance : Inhabited BSt := ⟨⟨⟨0, 0⟩, by simp [okSt]⟩⟩
def encB (x : BSt) : List Value := encSt x.1
theorem ahead_less (s t : St) : decide (aheadOf s t < 0) = lessS s t := by
  unfold aheadOf orOf lessS
  by_cases h : s.b - t.b = 0
  · rw [if_pos h, decide_eq_decide]; omega
  · rw [if_neg h, decide_eq_decide]; omega
theorem lt_less (x y : BSt) : ltOf (fun x y : BSt => aheadOf x.1 y.1) x y = lessS x.1 y.1 := ahead_less _ _
theorem swoSt : SWO (ltOf fun x y : BSt => aheadOf x.1 y.1) where
  irrefl x := by rw [lt_less]; simp [lessS]
  trans x y z h1 h2 := by rw [lt_less] at *; simp [lessS] at *; omega
  ntrans x y z h1 h2 := by rw [lt_less] at *; simp [lessS] at *; omega

theorem sortWorldK_below {α : Type} [Inhabited α] (enc : α → List Value) (k B : Nat) (w : World) (g off n : Nat) (d : Array α) (os : Array Obj) (hg : B ≤ g) (hB : B ≤ w.heap.size) : Below B w (sortWorldK enc k w g off n d os) := by
  refine ⟨rfl, rfl, rfl, size_sortWorldK_c .., fun i hi => ?_⟩
  show ((w.heap.modify g _) ++ os)[i]? = w.heap[i]?
  rw [Array.getElem?_append_left (by simp; omega), Array.getElem?_modify, if_neg (by omega)]

theorem holds_of_row {w : World} {B g cap : Nat} {T : TypeId} {ds : List BSt} (h : Row w B T 2 g ds.length cap (ds.flatMap encB)) : HoldsK encB 2 w g 0 ds.toArray := by
  intro j hj
  rw [size_flatK, List.size_toArray] at hj
  have hi : j / 2 < ds.length := by omega
  rw [get_flatK _ _ _ _ (by simpa using hj), Nat.zero_add]
  refine ⟨h.cell j ?_, h.free j⟩
  have e := flatMap_get encB 2 (fun _ => rfl) ds (j / 2) (j % 2) ds[j / 2] (List.getElem?_eq_getElem hi) (Nat.mod_lt _ (by decide))
  rw [show j / 2 * 2 + j % 2 = j from by omega] at e
  rw [e, getElem!_pos ds.toArray (j / 2) (by simpa using hi)]
  have hl : j % 2 < (encB ds[j / 2]).length := by show j % 2 < 2; omega
  rw [List.getElem?_eq_getElem hl, getElem!_pos _ _ (by simpa using hl)]
  rfl

theorem cells_of_holds {w : World} {g : Nat} {d : Array BSt} (h : HoldsK encB 2 w g 0 d) : CellsAt w g 0 (d.toList.flatMap encB) := by
  intro i c hc
  have hl := (List.getElem?_eq_some_iff.1 hc).1
  rw [flatMap_len encB 2 (fun _ => rfl)] at hl
  have hi : i / 2 < d.toList.length := by omega
  have hi' : i / 2 < d.size := by simpa using hi
  have e := flatMap_get encB 2 (fun _ => rfl) d.toList (i / 2) (i % 2) d.toList[i / 2] (List.getElem?_eq_getElem hi) (Nat.mod_lt _ (by decide))
  rw [show i / 2 * 2 + i % 2 = i from by omega, hc] at e
  have h2 := (h.cell (i := i / 2) (c := i % 2) hi' (Nat.mod_lt _ (by decide))).1
  rw [show 0 + i / 2 * 2 + i % 2 = 0 + i from by omega] at h2
  rw [h2, getElem!_pos d (i / 2) hi']
  have hl2 : i % 2 < (encB d[i / 2]).length := by show i % 2 < 2; omega
  rw [getElem!_pos (encB d[i / 2]) _ hl2]
  rw [Array.getElem_toList, List.getElem?_eq_getElem hl2] at e
  exact e.symm

theorem enter_ahead (args : Array Value) (w : World) : (callFunc 87 args).run Try.prog w = .ok (.enter 87 args) w := by kernel_rfl

theorem sort_states {w : World} {B g cap : Nat} (ds : List BSt) (h : Row w B 39 2 g ds.length cap (ds.flatMap encB)) (hnd : ds.Nodup) (hB : B ≤ w.heap.size) (hs : ds.length ≤ 1000000) :
    Calls Try.prog 86 #[.slice (some ⟨g, 0, none⟩) ds.length cap, .func (.func 87) #[] #[]] w fun e w' => e = .returned (.tuple #[]) ∧
      ∃ ts : List BSt, ts.Perm ds ∧ ts.Pairwise (fun x y => lessS x.1 y.1 = true) ∧ CellsAt w' g 0 (ts.flatMap encB) ∧ Below B w w' := by
  have hcmp : CmpLays Try.prog 87 #[] encB 2 (fun x y => aheadOf x.1 y.1) g 0 ds.toArray.size w := fun m os dk hd x y => ahead_any x.1 y.1 _ x.2 y.2
  have hH := holds_of_row h
  have hcon := AnyQ.slices_SortFunc Try.sortSt 2 Try.isAgg39 Try.sizeOf39 encB (fun _ => rfl) (fun x v hv => by simp [encB, encSt] at hv; rcases hv with rfl | rfl <;> rfl) (fun x y => aheadOf x.1 y.1) swoSt 87 #[] g 0 cap ds.toArray w enter_ahead hcmp hH h.lt (by simp; omega)
  change Calls Try.prog 86 _ _ _ at hcon
  refine hcon.mono ?_
  rintro e w' ⟨rfl, d', n, os, ⟨hsz, _, hp⟩, hso, rfl⟩
  have hperm : d'.toList.Perm ds := by
    have e1 : d'.extract 0 ds.toArray.size = d' := by rw [← hsz]; simp
    rw [e1] at hp
    simpa using hp
  refine ⟨rfl, d'.toList, hperm, ?_, cells_of_holds (holdsK_sortWorldK encB 2 w g 0 n ds.toArray d' os h.lt hH hsz), sortWorldK_below _ _ _ _ _ _ _ _ _ h.ge hB⟩
  rw [List.pairwise_iff_getElem]
  intro i j hi hj hij
  have h1 := hso i j (Nat.zero_le _) hij (by simpa [hsz] using hj)
  rw [getElem!_pos d' i (by simpa using hi), getElem!_pos d' j (by simpa using hj), lt_less] at h1
  have hnd' : d'.toList.Nodup := hperm.nodup_iff.2 hnd
  have hne : d'.toList[i] ≠ d'.toList[j] := fun e => by have := (List.getElem_inj hnd').1 e; omega
  rw [Array.getElem_toList, Array.getElem_toList] at *
  have hne2 : d'[i].1 ≠ d'[j].1 := fun e => hne (Subtype.ext e)
  simp only [lessS, decide_eq_false_iff_not, decide_eq_true_eq] at h1 ⊢
  have : ¬ (d'[i].1.b = d'[j].1.b ∧ d'[i].1.d = d'[j].1.d) := fun ⟨a, b⟩ => hne2 (by cases hx : d'[i].1; cases hy : d'[j].1; simp_all)
  omega
end Go.Proofs.Ytcfhbnfincpehaa

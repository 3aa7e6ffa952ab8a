/- What came in, opened to plain values; and a law's row shut. Nothing is asked. -/
import Derived.Test.YtcfhbnfincpehaaRows
import Derived.Test.YtcfhbnfincpehaaJ9
import Derived.WalkKit
import Derived.ProofKit
import Derived.OpenShut
import Derived.ShutString
import Derived.ChangeOld
import Derived.Deep.Slices
namespace Go.Proofs.Ytcfhbnfincpehaa
open Go.ChangeShapes Go.WideShapes Go.ChangeAt Go.RowKit Go.Deep

/-- The cells of a type are those of a plain value. -/
def OpensTo (P : Program) (t : TypeId) {α : Type} (e : α → List Value) : Prop :=
  ∀ (H : Type) (enc : TypeId × Value → H) (w : World) (base : Nat) (spare : Nat → Bool) (held : Bool) (n : Nat) (cs : List Value) (y : DataW H × List MemPlace), DataW.trod enc P w base spare held n t cs = some y → ∃ x, cs = e x
section
variable {P : Program} {t : TypeId} {α β γ : Type} {e0 : α → List Value} {e1 : β → List Value} {e2 : γ → List Value}
theorem OpensTo.to {e : β → List Value} (h : OpensTo P t e0) (f : α → β) (hf : ∀ x, e0 x = e (f x)) : OpensTo P t e := fun H enc w base sp hd n cs y hy => by
  obtain ⟨x, rfl⟩ := h H enc w base sp hd n cs y hy
  exact ⟨f x, hf x⟩
theorem opens_int {k : IntKind} (ht : P.underlying t = some (.int k)) : OpensTo P t (fun n : Int => [.int k n]) := fun H enc w base sp hd n cs y hy => by
  obtain ⟨m, rfl, _⟩ := DataW.trod_int ht hy
  exact ⟨m, rfl⟩
theorem opens_wfint {k : IntKind} (ht : P.underlying t = some (.int k)) : OpensTo P t (fun n : { m : Int // (Lit.int k m).wf = true } => [.int k n.1]) := fun H enc w base sp hd n cs y hy => by
  obtain ⟨m, rfl, _, hw⟩ := DataW.trod_int ht hy
  exact ⟨⟨m, hw⟩, rfl⟩
theorem opens_struct2 {f0 f1 : Field} (ht : P.underlying t = some (.struct #[f0, f1])) (h0 : OpensTo P f0.type e0) (h1 : OpensTo P f1.type e1) (o0 : f0.offset = 0) (o1 : f1.offset = P.cellsOf f0.type) (hc : P.cellsOf t = P.cellsOf f0.type + P.cellsOf f1.type) :
    OpensTo P t (fun p : α × β => e0 p.1 ++ e1 p.2) := fun H enc w base sp hd n cs y hy => by
  obtain ⟨y0, y1, m, _, hl, t0, t1⟩ := trod_struct2 ht hy
  obtain ⟨a, ha⟩ := h0 _ _ _ _ _ _ _ _ _ t0
  obtain ⟨b, hb⟩ := h1 _ _ _ _ _ _ _ _ _ t1
  refine ⟨(a, b), ?_⟩
  rw [o0, List.drop_zero] at ha
  rw [o1, List.take_of_length_le (by rw [List.length_drop, hl, hc]; omega)] at hb
  show cs = e0 a ++ e1 b
  rw [← ha, ← hb, List.take_append_drop]
theorem opens_struct3 {f0 f1 f2 : Field} (ht : P.underlying t = some (.struct #[f0, f1, f2])) (h0 : OpensTo P f0.type e0) (h1 : OpensTo P f1.type e1) (h2 : OpensTo P f2.type e2) (o0 : f0.offset = 0) (o1 : f1.offset = P.cellsOf f0.type) (o2 : f2.offset = P.cellsOf f0.type + P.cellsOf f1.type) (hc : P.cellsOf t = P.cellsOf f0.type + P.cellsOf f1.type + P.cellsOf f2.type) :
    OpensTo P t (fun p : α × β × γ => e0 p.1 ++ (e1 p.2.1 ++ e2 p.2.2)) := fun H enc w base sp hd n cs y hy => by
  obtain ⟨xs, m, _, _, hl, hlen, hf⟩ := DataW.trod_struct ht hy
  match xs, hlen with
  | [y0, y1, y2], _ =>
  obtain ⟨a, ha⟩ := h0 _ _ _ _ _ _ _ _ _ (show _ = some y0 by simpa using hf 0 f0 rfl)
  obtain ⟨b, hb⟩ := h1 _ _ _ _ _ _ _ _ _ (show _ = some y1 by simpa using hf 1 f1 rfl)
  obtain ⟨c, hc2⟩ := h2 _ _ _ _ _ _ _ _ _ (show _ = some y2 by simpa using hf 2 f2 rfl)
  refine ⟨(a, b, c), ?_⟩
  rw [o0, List.drop_zero] at ha
  rw [o1] at hb
  rw [o2, List.take_of_length_le (by rw [List.length_drop, hl, hc]; omega)] at hc2
  show cs = e0 a ++ (e1 b ++ e2 c)
  rw [← ha, ← hb, ← hc2, ← List.drop_drop, List.take_append_drop, List.take_append_drop]
/-- A slice that came in. -/
theorem opens_slice {H : Type} {enc : TypeId × Value → H} {w : World} {base : Nat} {spare : Nat → Bool} {held : Bool} {fuel : Nat} {cs : List Value} {y : DataW H × List MemPlace} {E : TypeId} {z : Nat} (ht : P.underlying t = some (.slice E)) (hE : OpensTo P E e0) (hz : P.cellsOf E = z) [hr : Rec e0 z]
    (h : DataW.trod enc P w base spare held fuel t cs = some y) : ∃ (a : Option Addr) (cap : Nat) (xs : List α), cs = [.slice a xs.length cap] ∧ KSl a xs.length cap e0 xs w := by
  rcases open_slice ht h with ⟨rfl, _⟩ | ⟨a, len, cap, m, n, D, Pl, rfl, hb, hl, hm, hmm, _, hel⟩
  · exact ⟨none, 0, [], rfl, ⟨⟨Nat.le_refl _, by decide, fun _ => ⟨rfl, rfl⟩, fun h => absurd rfl h⟩, rfl⟩⟩
  · have hle : len ≤ m := by rw [hmm]; split <;> omega
    have hx : ∀ i, i < len → ∃ x : α, w.cells? base (a.add (i * z)) z = some (e0 x) := fun i hi => by
      obtain ⟨cs', h1, h2⟩ := hel i (by omega)
      obtain ⟨x, rfl⟩ := hE _ _ _ _ _ _ _ _ _ h2
      rw [hz] at h1
      exact ⟨x, h1⟩
    by_cases h0 : len = 0
    · subst h0
      exact ⟨some a, cap, [], rfl, ⟨⟨Nat.zero_le _, hm, fun h => (by cases h), fun h => absurd rfl h⟩, rfl⟩⟩
    · obtain ⟨x0, _⟩ := hx 0 (by omega)
      haveI : Inhabited α := ⟨x0⟩
      obtain ⟨f, hf⟩ := choose_lt hx
      have hlen : ((List.range len).map f).length = len := by simp
      refine ⟨some a, cap, (List.range len).map f, by rw [hlen], ⟨⟨by rw [hlen]; exact hl, hm, fun h => (by cases h), fun _ => ?_⟩, rfl⟩⟩
      obtain ⟨b, o, sp⟩ := a
      have hpos := hr.pos
      have hall : ∀ i, i < len → ∀ j, j < z → w.cell? (((⟨b, o, sp⟩ : Addr).add (i * z)).add j) = (e0 (f i))[j]? := fun i hi j hj => (World.cells?_some (hf i hi)).2.2 j hj
      have hs : sp = none := by
        have h1 := hall 0 (by omega) 0 hpos
        have h2 : ∃ c, (e0 (f 0))[0]? = some c := ⟨_, List.getElem?_eq_getElem (by rw [hr.len]; exact hpos)⟩
        obtain ⟨c, h2⟩ := h2
        rw [h2] at h1
        simpa [Addr.add] using World.cell?_spot h1
      subst hs
      have hbl : b < w.heap.size := by
        have := World.cells?_block (hf 0 (by omega)) hpos
        simpa [Addr.add] using this
      refine ⟨b, o, rfl, hbl, fun q c hc => ?_⟩
      have hq : q < len * z := by
        have : q < ((List.range len).map f |>.flatMap e0).length := (List.getElem?_eq_some_iff.1 hc).1
        rwa [flatMap_len e0 z hr.len, hlen] at this
      have hdiv : q / z < len := Nat.div_lt_of_lt_mul (by rw [Nat.mul_comm]; exact hq)
      have hmod : q % z < z := Nat.mod_lt _ hpos
      have hqe : q = q / z * z + q % z := by rw [Nat.mul_comm]; exact (Nat.div_add_mod q z).symm
      have h1 := hall (q / z) hdiv (q % z) hmod
      rw [addr_add, addr_add] at h1
      rw [hqe, ← Nat.add_assoc, h1]
      have h2 := flatMap_get e0 z hr.len ((List.range len).map f) (q / z) (q % z) (f (q / z)) (by simp [hdiv]) hmod
      rw [← hqe, hc] at h2
      exact h2.symm
end
section
variable {H : Type} {enc : TypeId × Value → H} {P : Program}
theorem trodAll_stays (hl : laidOutB P = true) {W W' : World} (hb : Below W.heap.size W W') : ∀ {ts : List TypeId} {vs : List Value} {ds : List (DataW H)} {p : List MemPlace}, (∀ t ∈ ts, P.readableRec t = true ∧ t < P.types.size) → DataW.TrodAll enc P W 0 (fun _ => true) true ts vs ds p → (∀ x ∈ p, x.block < W.heap.size) →
    DataW.TrodAll enc P W' 0 (fun b => decide (b < W.heap.size)) true ts vs ds p
  | [], [], [], _, _, h, _ => h
  | [], [], _ :: _, _, _, h, _ => h.elim
  | [], _ :: _, _, _, _, h, _ => h.elim
  | _ :: _, [], _, _, _, h, _ => h.elim
  | _ :: _, _ :: _, [], _, _, h, _ => h.elim
  | t :: ts, v :: vs, d :: ds, p, hr, ⟨p1, p2, h1, h2, e⟩, hlt => by
    subst e
    exact ⟨p1, p2, Below.trod hl (hr t (by simp)).1 (hr t (by simp)).2 h1 hb (fun x hx => hlt x (by simp [hx])), trodAll_stays hl hb (fun t ht => hr t (by simp [ht])) h2 (fun x hx => hlt x (by simp [hx])), rfl⟩
/-- What a law owes at its return. -/
theorem law_post {f : Func} {s : ChangeSpec} {W W' : World} {args : Array Value} {ds gs : List (DataW H)} {before : List MemPlace} {tb : TypeId} (hW : DataW.Whole enc P f.params.toList s.vars false W args.toList ds gs before) (hb : Below W.heap.size W W')
    (hl : laidOutB P = true) (hr : ∀ t ∈ f.params.toList, P.readableRec t = true ∧ t < P.types.size) (hv : s.vars = []) (ht : f.resultTypes = #[tb]) (hu : P.underlying tb = some .bool) (h1 : (s.fn H (ds ++ gs)).results = [.lit (.bool true)]) (h2 : (s.fn H (ds ++ gs)).args = ds) (h3 : (s.fn H (ds ++ gs)).vars = []) :
    s.post enc P f false true false false W args (.bool true) W' := by
  have hlt := hW.lt
  have hW2 := hW
  obtain ⟨p, q, hA, hV, rfl, hfz, hnd⟩ := hW
  refine ⟨ds, gs, _, [], p, [], hW2, ?_, ?_, ?_, hb.frame _, fun h => by cases h⟩
  · rw [ht, h1]; exact trodAll_mk1 (shut_bool hu _)
  · rw [h2]; exact trodAll_stays hl hb hr hA fun x hx => hlt x (List.mem_append_left _ hx)
  · rw [h3, hv]; rfl
/-- From a contract to what a law's row asks. -/
theorem Cv.below {f : FuncId} {args : List Value} {pre : World → Prop} {v : Value} (h : Cv P f args pre v) {W : World} (hp : ∀ w', Below W.heap.size W w' → pre w') : Calls P f args.toArray W fun e W' => e = .returned v ∧ Below W.heap.size W W' := by
  refine (h (fun _ => False) W (fun _ h => h.elim) (by simp) .nil (fun w' hm => hp w' (hm.below (Nat.le_refl _) fun i _ h => h))).mono ?_
  rintro e w' ⟨_, M', rfl, hm, _⟩
  exact ⟨rfl, hm.below (Nat.le_refl _) fun i _ ⟨c, hc, _⟩ => by cases hc⟩
theorem KSl.below {α : Type} {a : Option Addr} {n cap : Nat} {e : α → List Value} {xs : List α} {w w' : World} (h : KSl a n cap e xs w) (hb : Below w.heap.size w w') : KSl a n cap e xs w' := ⟨h.1.below hb (Nat.le_refl _), h.2⟩
end
end Go.Proofs.Ytcfhbnfincpehaa

/- Own texts, laid together: B11 B12 B13 B14 B15 B16 B17 B18 B19. Nothing is asked. -/
import Derived.Test.YthpkgabckklojaaGreatZ6
import Derived.Shelf.SlSortCmp.NoneTotal
import Derived.Test.YthpkgabckklojaaGreatZ4
set_option linter.unusedSimpArgs false
set_option linter.unusedVariables false
/- Bill, plain: tills, and the gaps between their messages. -/
namespace Go.Proofs.YthpkgabckklojaaGreat.Bl
open Go.RowKit Go.Shelf

structure Gp where
  fr : Int
  to_ : Int
  co : Int
deriving DecidableEq, Inhabited
def gapOf (last m : Ms) : Gp := ⟨last.no + 1, m.no - 1, m.total - m.coins - last.total⟩
def gapsF : Ms → List Ms → List (Gp × Ms)
  | _, [] => []
  | last, m :: ts => (gapOf last m, m) :: gapsF m ts
abbrev zM : Ms := ⟨0, 0, 0⟩
def gapsL (ts : List Ms) : List (Gp × Ms) := gapsF zM ts
theorem gapsF_len : ∀ (ts : List Ms) (l : Ms), (gapsF l ts).length = ts.length
  | [], _ => rfl
  | m :: ts, _ => by unfold gapsF; rw [List.length_cons, gapsF_len ts, List.length_cons]
theorem gapsF_get : ∀ (ts : List Ms) (l : Ms) (i : Nat) (h : i < ts.length), (gapsF l ts)[i]'(by rw [gapsF_len]; exact h) = (gapOf (if h0 : i = 0 then l else ts[i - 1]'(by omega)) ts[i], ts[i])
  | m :: ts, l, 0, _ => rfl
  | m :: ts, l, i + 1, h => by
    have h' : i < ts.length := by simpa using h
    show (gapsF m ts)[i]'_ = _
    rw [gapsF_get ts m i h']
    cases i with
    | zero => rfl
    | succ i => rfl
def manyG (g : Gp) : Int := g.to_ - g.fr + 1
def canG (g : Gp) : Bool := inI g.co (manyG g) (manyG g * 1000)
def okG (g : Gp) : Bool := decide (0 ≤ manyG g) && canG g
def fitB (ts : List Ms) : Bool := (gapsL ts).all fun z => okG z.1
def littleG (g : Gp) (some : Int) : Int := max some (g.co - (manyG g - some) * 1000)
def muchG (g : Gp) (some : Int) : Int := min (some * 1000) (g.co - (manyG g - some))
theorem okG_iff {g : Gp} : okG g = true ↔ 0 ≤ manyG g ∧ manyG g ≤ g.co ∧ g.co ≤ manyG g * 1000 := by
  unfold okG canG
  rw [Bool.and_eq_true, decide_eq_true_eq, inI_iff]
/-- Each message once. -/
def ddL (l : List Ms) : List Ms := l.foldl (fun t m => if m ∈ t then t else t ++ [m]) []
theorem dd_go : ∀ (l t : List Ms), t.Nodup → (l.foldl (fun t m => if m ∈ t then t else t ++ [m]) t).Nodup ∧ ∀ m, m ∈ l.foldl (fun t m => if m ∈ t then t else t ++ [m]) t ↔ m ∈ t ∨ m ∈ l
  | [], t, h => ⟨h, by simp⟩
  | x :: l, t, h => by
    rw [List.foldl_cons]
    by_cases hx : x ∈ t
    · rw [if_pos hx]
      obtain ⟨h1, h2⟩ := dd_go l t h
      refine ⟨h1, fun m => ?_⟩
      rw [h2, List.mem_cons]
      constructor
      · rintro (h | h)
        · exact .inl h
        · exact .inr (.inr h)
      · rintro (h | rfl | h)
        · exact .inl h
        · exact .inl hx
        · exact .inr h
    · rw [if_neg hx]
      obtain ⟨h1, h2⟩ := dd_go l (t ++ [x]) (by
        rw [List.nodup_append]
        exact ⟨h, by simp, fun a ha b hb => by rw [List.mem_singleton.1 hb]; intro e; exact hx (e ▸ ha)⟩)
      refine ⟨h1, fun m => ?_⟩
      rw [h2, List.mem_append, List.mem_singleton, List.mem_cons, or_assoc]
theorem dd_mem {l : List Ms} {m : Ms} : m ∈ ddL l ↔ m ∈ l := by
  have := (dd_go l [] List.nodup_nil).2 m
  simpa [ddL] using this
theorem dd_nodup (l : List Ms) : (ddL l).Nodup := (dd_go l [] List.nodup_nil).1
def leM (a b : Ms) : Bool := decide (a.no ≤ b.no)
def srtL (l : List Ms) : List Ms := (ddL l).mergeSort leM
theorem srt_perm (l : List Ms) : (srtL l).Perm (ddL l) := List.mergeSort_perm _ _
theorem srt_up (l : List Ms) : (srtL l).Pairwise fun a b => a.no ≤ b.no := by
  have := List.pairwise_mergeSort (le := leM) (fun a b c h1 h2 => by unfold leM at *; simp at *; omega) (fun a b => by unfold leM; simp; omega) (ddL l)
  exact this.imp fun h => of_decide_eq_true h
theorem fit_up : ∀ (ts : List Ms) (last : Ms), ((gapsF last ts).all fun z => okG z.1) = true → ts.Pairwise (fun a b => a.no < b.no) ∧ ∀ m ∈ ts, last.no < m.no
  | [], _, _ => ⟨.nil, by simp⟩
  | m :: ts, last, h => by
    unfold gapsF at h
    rw [List.all_cons, Bool.and_eq_true] at h
    obtain ⟨h1, h2⟩ := h
    obtain ⟨h3, h4⟩ := fit_up ts m h2
    have h5 := (okG_iff.1 h1).1
    have h6 : last.no < m.no := by unfold manyG gapOf at h5; simp only at h5; omega
    refine ⟨List.pairwise_cons.2 ⟨h4, h3⟩, fun x hx => ?_⟩
    rcases List.mem_cons.1 hx with rfl | hx
    · exact h6
    · have := h4 x hx; omega
theorem up_unique {ts us : List Ms} (h1 : ts.Pairwise fun a b => a.no < b.no) (h2 : us.Pairwise fun a b => a.no ≤ b.no) (hp : us.Perm ts) : us = ts := by
  refine List.Perm.eq_of_pairwise (le := fun a b : Ms => a.no ≤ b.no) (fun a b ha hb hab hba => ?_) h2 (h1.imp fun h => by omega) hp
  have ha' : a ∈ ts := hp.mem_iff.1 ha
  obtain ⟨i, hi, rfl⟩ := List.mem_iff_getElem.1 ha'
  obtain ⟨j, hj, rfl⟩ := List.mem_iff_getElem.1 hb
  rw [List.pairwise_iff_getElem] at h1
  rcases Nat.lt_trichotomy i j with h | h | h
  · have := h1 i j hi hj h; omega
  · subst h; rfl
  · have := h1 j i hj hi h; omega
theorem fit_same {ts us : List Ms} (h1 : ts.Pairwise fun a b => a.no ≤ b.no) (h2 : us.Pairwise fun a b => a.no ≤ b.no) (hp : us.Perm ts) : fitB us = fitB ts ∧ (fitB ts = true → us = ts) := by
  by_cases h : fitB ts = true
  · have := up_unique (fit_up ts zM h).1 h2 hp
    exact ⟨by rw [this], fun _ => this⟩
  · refine ⟨?_, fun h' => absurd h' h⟩
    by_cases h' : fitB us = true
    · have := up_unique (fit_up us zM h').1 h1 hp.symm
      rw [this]
    · rw [Bool.not_eq_true] at h h'
      rw [h, h']
/-- The error of messages. -/
def readE (l : List Ms) : Int := if 30 < l.length then 3 else if l.all msOk = false then 1 else if fitB (srtL l) = false then 9 else 0
theorem read_of {l : List Ms} (h : readE l = 0) : l.length ≤ 30 ∧ (∀ m ∈ l, VMs m) ∧ fitB (srtL l) = true := by
  unfold readE at h
  split at h
  · omega
  · split at h
    · omega
    · split at h
      · omega
      · rename_i h1 h2 h3
        exact ⟨by omega, fun m hm => msOk_iff.1 (List.all_eq_true.1 (by simpa using h2) m hm), by simpa using h3⟩
theorem dd_len (l : List Ms) : (ddL l).length ≤ l.length := by
  unfold ddL
  have : ∀ (l t : List Ms), (l.foldl (fun t m => if m ∈ t then t else t ++ [m]) t).length ≤ t.length + l.length := by
    intro l
    induction l with
    | nil => intro t; simp
    | cons x l ih =>
      intro t
      rw [List.foldl_cons, List.length_cons]
      split
      · have := ih t; omega
      · have := ih (t ++ [x]); rw [List.length_append, List.length_singleton] at this; omega
  simpa using this l []
theorem srt_len (l : List Ms) : (srtL l).length ≤ l.length := by rw [(srt_perm l).length_eq]; exact dd_len l
theorem srt_mem {l : List Ms} {m : Ms} : m ∈ srtL l ↔ m ∈ l := by rw [(srt_perm l).mem_iff, dd_mem]
end Go.Proofs.YthpkgabckklojaaGreat.Bl

/- Walks of bill: messages, gaps. -/
namespace Go.Proofs.YthpkgabckklojaaGreat.Bl
open Go.RowKit Go.Shelf

set_option maxRecDepth 100000 in
theorem min_j (b : Nat) (x y : Int) : Cv Tryz.prog 110 [.slice (some ⟨b, 0, none⟩) 2 2] (KSl (some ⟨b, 0, none⟩) 2 2 encI [x, y]) (I (min x y)) := by
  refine Cx_of Tryz.func110 rfl Tryz.ntmps110 rfl fun w0 M0 => ?_
  refine JC_seq ?_
  refine JC_region ?_
  refine JL_pd rfl (det_assign rfl) ?_
  refine JL_nil ?_
  refine JE_seq ?_
  refine JC_seq ?_
  refine JC_seq ?_
  refine JC_region ?_
  refine JL_pd rfl (det_move rfl) ?_
  refine JL_pd rfl (det_len rfl Tryz.runUnderlying31) ?_
  refine JL_pd rfl (det_lss rfl rfl) ?_
  refine JL_nil ?_
  refine JE_seq ?_
  -- stop: cond
  refine JC_if rfl (fun h0 => ?_) (fun h0 => ?_)
  · exact absurd h0 (by decide)
  refine JC_skip ?_
  refine JE_seq ?_
  refine JC_seq ?_
  refine JC_region ?_
  refine JL_pd rfl (det_move rfl) ?_
  refine JL_dt rfl (det_indexAddr (i := 0) rfl rfl rfl (by decide) Tryz.runUnderlying31 Tryz.sizeOf3) ?_
  refine JL_dt rfl (det_loadE (n := 2) (i := 0) (xs := [x, y]) rfl (by decide) Tryz.isAgg3 rfl rfl) ?_
  refine JL_pd rfl (det_assign rfl) ?_
  refine JL_nil ?_
  refine JE_seq ?_
  refine JC_seq ?_
  refine JC_seq ?_
  refine JC_region ?_
  refine JL_pd rfl (det_assign rfl) ?_
  refine JL_nil ?_
  refine JE_seq ?_
  refine JC_block ?_
  -- stop: loop
  refine JC_loopF (γ := Nat) (fun i => i = 1 ∨ i = 2) (fun i => [(4, I i), (3, I (if i = 1 then x else min x y))]) (fun _ => []) (fun i => 2 - i) 1 (.inl rfl) (stsub_consI rfl rfl (stsub_consI rfl rfl stsub_nil)) ht_nil ?_
  intro i hi K hK
  dsimp only [List.cons_append, List.nil_append]
  refine JC_seq ?_
  refine JC_seq ?_
  refine JC_region ?_
  refine JL_pd rfl (det_move rfl) ?_
  refine JL_pd rfl (det_move rfl) ?_
  refine JL_pd rfl (det_len rfl Tryz.runUnderlying31) ?_
  refine JL_pd rfl (det_lss rfl rfl) ?_
  refine JL_nil ?_
  refine JE_seq ?_
  -- stop: cond
  refine JC_if rfl (fun h1 => ?_) (fun h1 => ?_)
  · obtain rfl : i = 1 := by omega
    rw [if_pos rfl]
    refine JC_skip ?_
    refine JE_seq ?_
    refine JC_seq ?_
    refine JC_block ?_
    refine JC_region ?_
    refine JL_pd rfl (det_move rfl) ?_
    refine JL_pd rfl (det_move rfl) ?_
    refine JL_pd rfl (det_move rfl) ?_
    refine JL_dt rfl (det_indexAddr rfl rfl (by first | rfl | omega) (by first | assumption | omega | decide) Tryz.runUnderlying31 Tryz.sizeOf3) ?_
    refine JL_dt rfl (det_loadE (n := 2) (i := 1) (xs := [x, y]) rfl (by decide) Tryz.isAgg3 rfl rfl) ?_
    refine JL_pd rfl (det_min rfl rfl) ?_
    refine JL_pd rfl (det_assign rfl) ?_
    refine JL_nil ?_
    refine JE_block ?_
    refine JE_seq ?_
    refine JC_region ?_
    refine JL_pd rfl (det_move rfl) ?_
    refine JL_pd rfl (det_add rfl rfl ⟨by omega, by omega⟩) ?_
    refine JL_pd rfl (det_assign rfl) ?_
    refine JL_nil ?_
    -- stop: end
    refine JE_roundF hK 2 (.inr rfl) (by omega) (stsub_consI rfl (by decide) (stsub_consI rfl rfl stsub_nil)) ht_nil
  · obtain rfl : i = 2 := by omega
    refine JC_exit ?_
    refine JE_seq_exit ?_
    refine JE_then_exit ?_
    refine JE_block_here ?_
    refine JE_seq ?_
    refine JC_seq ?_
    refine JC_region ?_
    refine JL_pd rfl (det_move rfl) ?_
    refine JL_pd rfl (det_assign rfl) ?_
    refine JL_nil ?_
    refine JE_seq ?_
    refine JC_ret ?_
    -- stop: out
    refine JE_out (.inl rfl) () (results1 Tryz.results110 (res_tmp rfl)) (by rw [if_neg (by decide)]) (List.Perm.refl _) (fun _ _ => trivial)
def gapBd (g : Gp) : Prop := -1000 ≤ g.fr ∧ g.fr ≤ 1000 ∧ -1000 ≤ g.to_ ∧ g.to_ ≤ 1000 ∧ -1000000 ≤ g.co ∧ g.co ≤ 1000000
theorem gap_bd {l m : Ms} (hl : l = zM ∨ VMs l) (hm : VMs m) : gapBd (gapOf l m) := by
  have := hm.n0; have := hm.n1; have := hm.c0; have := hm.c1; have := hm.t0; have := hm.t1
  have h2 : 0 ≤ l.no ∧ l.no ≤ 60 ∧ 0 ≤ l.total ∧ l.total ≤ 60000 := by
    rcases hl with rfl | h
    · decide
    · have := h.n0; have := h.n1; have := h.t0; have := h.t1; omega
  unfold gapBd gapOf
  simp only
  omega
def encGM (z : Gp × Ms) : List Value := [.agg #[I z.1.fr, I z.1.to_, I z.1.co], .agg #[I z.2.no, I z.2.coins, I z.2.total]]
end Go.Proofs.YthpkgabckklojaaGreat.Bl

/- Walks of bill: the gaps, one by one. -/
namespace Go.Proofs.YthpkgabckklojaaGreat.Bl
open Go.RowKit Go.Shelf

end Go.Proofs.YthpkgabckklojaaGreat.Bl

/- Walks of bill: messages in order. -/
namespace Go.Proofs.YthpkgabckklojaaGreat.Bl
open Go.RowKit Go.Shelf Go.Proofs Go.Lib
open Go.Sort hiding Below

/-- The world has grown alone. -/
def Grown (W w' : World) : Prop := ∃ q os, w' = grow (W.drewN q) os
theorem Grown.refl (W : World) : Grown W W := ⟨0, #[], by simp [World.drewN]⟩
theorem Grown.alloc {W w : World} (h : Grown W w) (o : Obj) : Grown W (w.alloc o) := by
  obtain ⟨q, os, rfl⟩ := h
  exact ⟨q, os ++ #[o], by rw [alloc_eq_grow, grow_grow]⟩
def okM (m : Ms) : Prop := -1000 ≤ m.no ∧ m.no ≤ 1000
def noOf (s t : Ms) : Int := s.no - t.no
abbrev BMs := { m : Ms // okM m }
instance : Inhabited BMs := ⟨⟨zM, by simp [okM]⟩⟩
def encBM (x : BMs) : List Value := encM x.1
theorem swoM : SWO (ltOf fun x y : BMs => noOf x.1 y.1) where
  irrefl x := by simp [ltOf, noOf]
  trans x y z h1 h2 := by
    have h1 : x.1.no - y.1.no < 0 := of_decide_eq_true h1
    have h2 : y.1.no - z.1.no < 0 := of_decide_eq_true h2
    exact decide_eq_true (show x.1.no - z.1.no < 0 by omega)
  ntrans x y z h1 h2 := by
    have h1 : ¬ x.1.no - y.1.no < 0 := of_decide_eq_false h1
    have h2 : ¬ y.1.no - z.1.no < 0 := of_decide_eq_false h2
    exact decide_eq_false (show ¬ x.1.no - z.1.no < 0 by omega)
theorem sortWorldK_heap {α : Type} [Inhabited α] (enc : α → List Value) (k : Nat) (w : World) (g off n : Nat) (d : Array α) (os : Array Obj) (i : Nat) (hi : i < w.heap.size) (hg : g ≠ i) : (sortWorldK enc k w g off n d os).heap[i]? = w.heap[i]? := by
  show ((w.heap.modify g _) ++ os)[i]? = w.heap[i]?
  rw [Array.getElem?_append_left (by simp; omega), Array.getElem?_modify, if_neg hg]
theorem holds_of_rowM {w : World} {B g cap : Nat} {T : TypeId} {ds : List BMs} (h : Row w B T 3 g ds.length cap (ds.flatMap encBM)) : HoldsK encBM 3 w g 0 ds.toArray := by
  intro j hj
  rw [size_flatK, List.size_toArray] at hj
  have hi : j / 3 < ds.length := by omega
  rw [get_flatK _ _ _ _ (by simpa using hj), Nat.zero_add]
  refine ⟨h.cell j ?_, h.free j⟩
  have e := flatMap_get encBM 3 (fun _ => rfl) ds (j / 3) (j % 3) ds[j / 3] (List.getElem?_eq_getElem hi) (Nat.mod_lt _ (by decide))
  rw [show j / 3 * 3 + j % 3 = j from by omega] at e
  rw [e, getElem!_pos ds.toArray (j / 3) (by simpa using hi)]
  have hl : j % 3 < (encBM ds[j / 3]).length := by show j % 3 < 3; omega
  rw [List.getElem?_eq_getElem hl, getElem!_pos _ _ (by simpa using hl)]
  rfl
theorem cells_of_holdsM {w : World} {g : Nat} {d : Array BMs} (h : HoldsK encBM 3 w g 0 d) : CellsAt w g 0 (d.toList.flatMap encBM) := by
  intro i c hc
  have hl := (List.getElem?_eq_some_iff.1 hc).1
  rw [flatMap_len encBM 3 (fun _ => rfl)] at hl
  have hi : i / 3 < d.toList.length := by omega
  have hi' : i / 3 < d.size := by simpa using hi
  have e := flatMap_get encBM 3 (fun _ => rfl) d.toList (i / 3) (i % 3) d.toList[i / 3] (List.getElem?_eq_getElem hi) (Nat.mod_lt _ (by decide))
  rw [show i / 3 * 3 + i % 3 = i from by omega, hc] at e
  have h2 := (h.cell (i := i / 3) (c := i % 3) hi' (Nat.mod_lt _ (by decide))).1
  rw [show 0 + i / 3 * 3 + i % 3 = 0 + i from by omega] at h2
  rw [h2, getElem!_pos d (i / 3) hi']
  have hl2 : i % 3 < (encBM d[i / 3]).length := by show i % 3 < 3; omega
  rw [getElem!_pos (encBM d[i / 3]) _ hl2]
  rw [Array.getElem_toList, List.getElem?_eq_getElem hl2] at e
  exact e.symm
/-- A slice of the call's own, of which only what it holds is known. -/
def kl {α : Type} (v : Value) (enc : α → List Value) (xs : List α) : Chunk := ⟨fun k => v.ownBlock = some k, fun w => ∃ a cap, v = .slice a xs.length cap ∧ KSl a xs.length cap enc xs w⟩
section
variable {X : Ctx} {P : Program} {st : Sto} {H H' : List Chunk} {R : World → Prop} {k : Kont} {ops : Array Oper} {rest : List Oper} {Q : Exit → Act → World → Prop}
theorem JC_kl {α : Type} {enc : α → List Value} {c : Code} (v : Value) (xs : List α) [hp : Pick H (kl v enc xs) H'] (hF : ∀ b, ¬ X.Fp b) (h : ∀ a cap, v = .slice a xs.length cap → JC X P c k st H' (KAnd (KSl a xs.length cap enc xs) R)) : JC X P c k st H R := fun a w ho => by
  have ho2 := ho.freeze (c := kl v enc xs) hF
  obtain ⟨a2, cap, e, _⟩ := ho2.r.1
  exact h a2 cap e a w (ho2.know fun w' hw => ⟨by obtain ⟨a3, cap3, e3, h3⟩ := hw.1; rw [e] at e3; cases e3; exact h3, hw.2⟩)
theorem JL_kl {α : Type} {enc : α → List Value} (v : Value) (xs : List α) [hp : Pick H (kl v enc xs) H'] (hF : ∀ b, ¬ X.Fp b) (h : ∀ a cap, v = .slice a xs.length cap → JL X P ops Q rest st H' (KAnd (KSl a xs.length cap enc xs) R)) : JL X P ops Q rest st H R := fun a w ho => by
  have ho2 := ho.freeze (c := kl v enc xs) hF
  obtain ⟨a2, cap, e, _⟩ := ho2.r.1
  exact h a2 cap e a w (ho2.know fun w' hw => ⟨by obtain ⟨a3, cap3, e3, h3⟩ := hw.1; rw [e] at e3; cases e3; exact h3, hw.2⟩)
end
theorem enter_pdq (args : Array Value) (w : World) : (callFunc 100 args).run Tryz.prog w = .ok (.enter 100 args) w := by kernel_rfl
theorem enter_len (args : Array Value) (w : World) : (callFunc 101 args).run Tryz.prog w = .ok (.enter 101 args) w := by kernel_rfl
end Go.Proofs.YthpkgabckklojaaGreat.Bl

/- Walks of bill: read. -/
namespace Go.Proofs.YthpkgabckklojaaGreat.Bl
open Go.RowKit Go.Shelf

def ekM (m : Ms) : Value := .agg #[I m.no, I m.coins, I m.total]
theorem Ms.ext' {a b : Ms} : a = b ↔ a.no = b.no ∧ a.coins = b.coins ∧ a.total = b.total := by
  cases a; cases b; simp
def ddM (t : List Ms) : Ms → Option Bool := fun m => if m ∈ t then some true else none
theorem ddM_nil : ddM [] = fun _ => none := by funext m; simp [ddM]
theorem ddM_snoc (t : List Ms) (m : Ms) : upd (ddM t) m true = ddM (t ++ [m]) := by
  funext x
  unfold upd ddM
  by_cases h : x = m
  · subst h; rw [if_pos rfl, if_pos (by simp)]
  · rw [if_neg h]
    by_cases h2 : x ∈ t
    · rw [if_pos h2, if_pos (by simp [h2])]
    · rw [if_neg h2, if_neg (by simp [h2, h])]
theorem ddL_take {l : List Ms} {i : Nat} (h : i < l.length) : ddL (l.take (i + 1)) = if l[i] ∈ ddL (l.take i) then ddL (l.take i) else ddL (l.take i) ++ [l[i]] := by
  rw [take_snoc h]
  unfold ddL
  rw [List.foldl_append]
  rfl
theorem gapsF_bd : ∀ (ts : List Ms) (l : Ms), (l = zM ∨ VMs l) → (∀ m ∈ ts, VMs m) → ∀ z ∈ gapsF l ts, gapBd z.1 ∧ VMs z.2
  | [], _, _, _, z, hz => by cases hz
  | m :: ts, l, hl, hV, z, hz => by
    have hm := hV m (by simp)
    unfold gapsF at hz
    rcases List.mem_cons.1 hz with rfl | hz
    · exact ⟨gap_bd hl hm, hm⟩
    · exact gapsF_bd ts m (.inr hm) (fun m hm => hV m (by simp [hm])) z hz
theorem gaps_bd {ts : List Ms} (hV : ∀ m ∈ ts, VMs m) : ∀ z ∈ gapsL ts, gapBd z.1 ∧ VMs z.2 := gapsF_bd ts zM (.inl rfl) hV
abbrev readV (l : List Ms) (q : Option Addr × Nat) : Value := if readE l = 0 then .tuple #[.agg #[.slice q.1 (srtL l).length q.2], I 0] else .tuple #[.agg #[.slice none 0 0], I (readE l)]
end Go.Proofs.YthpkgabckklojaaGreat.Bl

/- Walks of bill: Lost. -/
namespace Go.Proofs.YthpkgabckklojaaGreat.Bl
open Go.RowKit Go.Shelf

def rngI (lo hi : Int) : List Int := (List.range (hi + 1 - lo).toNat).map fun i : Nat => lo + (i : Int)
theorem rng_len (lo hi : Int) : (rngI lo hi).length = (hi + 1 - lo).toNat := by simp [rngI]
theorem rng_get {lo hi : Int} {i : Nat} (h : i < (rngI lo hi).length) : (rngI lo hi)[i] = lo + i := by simp [rngI]
theorem mem_rng {lo hi x : Int} : x ∈ rngI lo hi ↔ lo ≤ x ∧ x ≤ hi := by
  unfold rngI
  rw [List.mem_map]
  constructor
  · rintro ⟨i, hi, rfl⟩
    have := List.mem_range.1 hi
    omega
  · rintro ⟨h1, h2⟩
    exact ⟨(x - lo).toNat, List.mem_range.2 (by omega), by omega⟩
def gapR (z : Gp × Ms) : List Int := rngI z.1.fr z.1.to_
def lostL (ts : List Ms) : List Int := (gapsL ts).flatMap gapR
theorem gapR_len {z : Gp × Ms} (h : gapBd z.1) : (gapR z).length ≤ 2001 := by
  unfold gapR
  rw [rng_len]
  obtain ⟨h1, h2, h3, h4, _⟩ := h
  omega
theorem lost_len : ∀ (p : List (Gp × Ms)), (∀ z ∈ p, gapBd z.1) → (p.flatMap gapR).length ≤ 2001 * p.length
  | [], _ => by simp
  | z :: p, h => by
    have h1 := gapR_len (h z (by simp))
    have h2 := lost_len p fun z hz => h z (by simp [hz])
    rw [List.flatMap_cons, List.length_append, List.length_cons]
    omega
end Go.Proofs.YthpkgabckklojaaGreat.Bl

/- Walks of bill: Taken. -/
namespace Go.Proofs.YthpkgabckklojaaGreat.Bl
open Go.RowKit Go.Shelf

def someG (g : Gp) (fr to_ : Int) : Int := min to_ g.to_ - max fr g.fr + 1
def takeF (fv : Gp → Int → Int) (fr to_ : Int) (z : Gp × Ms) : Int := (if someG z.1 fr to_ > 0 then fv z.1 (someG z.1 fr to_) else 0) + (if inI z.2.no fr to_ = true then z.2.coins else 0)
def takenV (fv : Gp → Int → Int) (ts : List Ms) (fr to_ : Int) : Int := ((gapsL ts).map (takeF fv fr to_)).sum
theorem sum_bd2 {α : Type} {f : α → Int} {n : Int} : ∀ (p : List α), (∀ z ∈ p, -n ≤ f z ∧ f z ≤ n) → -(n * p.length) ≤ (p.map f).sum ∧ (p.map f).sum ≤ n * p.length
  | [], _ => by simp
  | z :: p, h => by
    have h1 := h z (by simp)
    have h2 := sum_bd2 p fun z hz => h z (by simp [hz])
    simp only [List.map_cons, List.sum_cons, List.length_cons, Int.natCast_add, Int.natCast_one, Int.mul_add, Int.mul_one]
    omega
theorem little_bd {g : Gp} {s : Int} (h : gapBd g) (h1 : 0 < s) (h2 : s ≤ 10000) : -20000000 ≤ littleG g s ∧ littleG g s ≤ 20000000 := by
  unfold littleG manyG; unfold gapBd at h; omega
theorem much_bd {g : Gp} {s : Int} (h : gapBd g) (h1 : 0 < s) (h2 : s ≤ 10000) : -20000000 ≤ muchG g s ∧ muchG g s ≤ 20000000 := by
  unfold muchG manyG; unfold gapBd at h; omega
theorem some_bd {g : Gp} {fr to_ : Int} (h : gapBd g) (h1 : 1 ≤ fr) (h2 : to_ ≤ 1000) : someG g fr to_ ≤ 1000 := by
  unfold someG; unfold gapBd at h; omega
theorem take_bd {fv : Gp → Int → Int} (hfb : ∀ g s, gapBd g → 0 < s → s ≤ 10000 → -20000000 ≤ fv g s ∧ fv g s ≤ 20000000) {z : Gp × Ms} {fr to_ : Int} (h : gapBd z.1) (hm : VMs z.2) (h1 : 1 ≤ fr) (h2 : to_ ≤ 1000) : -30000000 ≤ takeF fv fr to_ z ∧ takeF fv fr to_ z ≤ 30000000 := by
  have hc0 := hm.c0
  have hc1 := hm.c1
  have hs := some_bd h h1 h2
  have hf := hfb z.1 (someG z.1 fr to_) h
  unfold takeF
  split <;> split <;> omega
end Go.Proofs.YthpkgabckklojaaGreat.Bl

/- Walks of bill: Taken. -/
namespace Go.Proofs.YthpkgabckklojaaGreat.Bl
open Go.RowKit Go.Shelf

def lastN (ts : List Ms) : Int := if h : 0 < ts.length then ts[ts.length - 1].no else 0
theorem lastN_bd {ts : List Ms} (h : ∀ m ∈ ts, VMs m) : 0 ≤ lastN ts ∧ lastN ts ≤ 60 := by
  unfold lastN
  split
  · rename_i h0
    have hv := h _ (List.getElem_mem (show ts.length - 1 < ts.length by omega))
    have := hv.n0; have := hv.n1
    omega
  · decide
/-- The error of an amount taken. -/
def takenE (l : List Ms) (fr to_ : Int) : Int := if readE l ≠ 0 then readE l else if inI fr 1 to_ = false ∨ to_ > lastN (srtL l) then 2 else 0
theorem takenE_of {l : List Ms} {fr to_ : Int} (h : takenE l fr to_ = 0) : readE l = 0 ∧ 1 ≤ fr ∧ fr ≤ to_ ∧ to_ ≤ lastN (srtL l) := by
  unfold takenE at h
  split at h
  · rename_i h1; exact absurd h h1
  · rename_i h1
    split at h
    · omega
    · rename_i h2
      have h3 : inI fr 1 to_ = true := Decidable.byContradiction fun e => h2 (.inl (Bool.eq_false_iff.2 e))
      have h4 := inI_iff.1 h3
      exact ⟨Classical.byContradiction h1, h4.1, h4.2, by omega⟩
theorem takenE_ne {l : List Ms} {fr to_ : Int} (h : readE l = 0) (h2 : ¬ (inI fr 1 to_ = true ∧ to_ ≤ lastN (srtL l))) : takenE l fr to_ = 2 := by
  unfold takenE
  rw [if_neg (by rw [h]; decide), if_pos]
  by_cases h3 : inI fr 1 to_ = true
  · exact .inr (Int.not_le.1 fun h4 => h2 ⟨h3, h4⟩)
  · exact .inl (Bool.eq_false_iff.2 h3)
end Go.Proofs.YthpkgabckklojaaGreat.Bl

/- The statements about bill: the document's first examples. -/
namespace Go.Proofs.YthpkgabckklojaaGreat.Bl
open Go.RowKit Go.Shelf

def prL : List Of := [⟨500, ⟨1, 0, 0⟩, 0, 23, 12⟩, ⟨1300, ⟨3, 0, 2⟩, 0, 23, 2⟩, ⟨200, ⟨0, 0, 1⟩, 0, 23, 12⟩, ⟨1500, ⟨0, 4, 4⟩, 10, 15, 1⟩]
def tdL : List Ms := [⟨5, 10, 200⟩, ⟨2, 30, 80⟩]
theorem pr_ask : askE prL ⟨4, 0, 3⟩ 9 = 0 := by decide +kernel
theorem pr_best : bst 9 prL ⟨4, 0, 3⟩ = some ⟨[1, 1, 1, 0], 2000, 3⟩ := by decide +kernel
theorem srt_val {l ts : List Ms} (h1 : ts.Pairwise fun a b => a.no < b.no) (h2 : (ddL l).Perm ts) : srtL l = ts := up_unique h1 (srt_up l) ((srt_perm l).trans h2)
def tdS : List Ms := [⟨2, 30, 80⟩, ⟨5, 10, 200⟩]
theorem td_srt : srtL tdL = tdS := srt_val (by decide +kernel) (by decide +kernel)
theorem td_read : readE tdL = 0 := by unfold readE; rw [td_srt]; decide +kernel
theorem td_taken : takenE tdL 1 3 = 0 := by unfold takenE; rw [td_read, td_srt]; decide +kernel
theorem td_v : takenV littleG (srtL tdL) 1 3 = 81 ∧ takenV muchG (srtL tdL) 1 3 = 189 := by rw [td_srt]; decide +kernel
theorem td_lost : lostL (srtL tdL) = [1, 3, 4] := by rw [td_srt]; decide +kernel
theorem wBest_j (b : Nat) : Cr Tryz.prog 36 [.slice (some ⟨b, 0, none⟩) 4 4, .agg #[I 4, I 0, I 3], I 9] (KSl (some ⟨b, 0, none⟩) 4 4 encO prL) (fun q : Option Addr × Nat => .tuple #[.slice q.1 4 q.2, I 2000, I 0]) (fun q => KSl q.1 4 q.2 encI [1, 1, 1, 0]) := by
  have h0 := Best_jo (some ⟨b, 0, none⟩) 4 prL ⟨4, 0, 3⟩ 9 pr_ask
  rw [pr_best] at h0
  exact h0
theorem wShare_j (b : Nat) : Cr Tryz.prog 39 [I 1000, .slice (some ⟨b, 0, none⟩) 3 3] (KSl (some ⟨b, 0, none⟩) 3 3 encI [1, 1, 1]) (fun q : Option Addr × Nat => .tuple #[.slice q.1 3 q.2, I 0]) (fun q => KSl q.1 3 q.2 encI [333, 333, 334]) :=
  Cr.conv (Share_jo 1000 (some ⟨b, 0, none⟩) 3 [1, 1, 1] (by decide +kernel)) (fun q => rfl) (fun q w h => by rw [show sharesV 1000 [1, 1, 1] = [333, 333, 334] by decide +kernel] at h; exact h)
end Go.Proofs.YthpkgabckklojaaGreat.Bl

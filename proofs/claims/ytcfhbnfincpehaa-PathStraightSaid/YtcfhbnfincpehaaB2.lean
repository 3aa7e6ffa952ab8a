/- Own texts, laid together: Shelf PathH PathI PathJ PathK PathL PathM. Nothing is asked. -/
import Derived.Shelf.SlGeneric
import Derived.Shelf.SlSortCmp.WholeK
import Derived.Ground.SlsfProg
import Derived.Test.YtcfhbnfincpehaaProg
import Derived.Test.YtcfhbnfincpehaaB1
import Derived.Shelf.SlSortCmp.NoneTotal
set_option linter.unusedSimpArgs false
set_option linter.unusedVariables false
/-
  DERIVED: THE SHELF's CONTRACTS AT THIS DUMP, IN PLAIN WORDS (tools/lay-plain.mjs out of 'TryShelf.lean', which tools/lay-shelf.mjs wrote): THE SAME DECLARATIONS UNDER THE SAME NAMES: 'import', 'namespace', 'open', 'def', 'theorem' AND NOTHING ELSE: no command of the shelf's: FOR A HAND-IN. Each laying: the table of numbers ('.._ren') and one theorem, a field a fact of the dump's own or the kernel's comparison; each contract: ONE APPLICATION.
-/
namespace Go.Proofs.Ytcfhbnfincpehaa
open Go.Shelf Go.Proofs
def Try.sortSt_ren : Go.Shelf.Ren := ⟨fun | 6 => 86 | 15 => 99 | 14 => 98 | 28 => 111 | 29 => 112 | 20 => 103 | 21 => 104 | 22 => 105 | 23 => 106 | 24 => 107 | 25 => 108 | 26 => 109 | 27 => 110 | 46 => 113 | 47 => 114 | 48 => 115 | 49 => 116 | 50 => 117 | 57 => 118 | n => n, fun | 22 => 30 | 24 => 39 | 25 => 149 | 3 => 3 | 39 => 165 | 0 => 0 | 53 => 177 | 55 => 179 | 4 => 4 | 46 => 170 | 45 => 169 | 50 => 174 | 5 => 5 | 9 => 9 | 66 => 180 | 70 => 184 | 76 => 186 | 77 => 187 | n => n, fun | n => n⟩
theorem Try.sortSt : Go.Proofs.SlLaysF0.n6 Try.prog Try.sortSt_ren := {
  mixed := by kernel_rfl
  f6 := ⟨Try.f86.name, by decide, Try.func86.trans (congrArg some (by kernel_rfl))⟩
  f14 := ⟨Try.f98.name, by decide, Try.func98.trans (congrArg some (by kernel_rfl))⟩
  f15 := Try.func99.trans (congrArg some (by kernel_rfl))
  f20 := ⟨Try.f103.name, by decide, Try.func103.trans (congrArg some (by kernel_rfl))⟩
  f21 := ⟨Try.f104.name, by decide, Try.func104.trans (congrArg some (by kernel_rfl))⟩
  f22 := ⟨Try.f105.name, by decide, Try.func105.trans (congrArg some (by kernel_rfl))⟩
  f23 := ⟨Try.f106.name, by decide, Try.func106.trans (congrArg some (by kernel_rfl))⟩
  f24 := ⟨Try.f107.name, by decide, Try.func107.trans (congrArg some (by kernel_rfl))⟩
  f25 := ⟨Try.f108.name, by decide, Try.func108.trans (congrArg some (by kernel_rfl))⟩
  f26 := ⟨Try.f109.name, by decide, Try.func109.trans (congrArg some (by kernel_rfl))⟩
  f27 := ⟨Try.f110.name, by decide, Try.func110.trans (congrArg some (by kernel_rfl))⟩
  f28 := Try.func111.trans (congrArg some (by kernel_rfl))
  f29 := Try.func112.trans (congrArg some (by kernel_rfl))
  f46 := ⟨Try.f113.name, by decide, Try.func113.trans (congrArg some (by kernel_rfl))⟩
  f47 := Try.func114.trans (congrArg some (by kernel_rfl))
  f48 := Try.func115.trans (congrArg some (by kernel_rfl))
  f49 := ⟨Try.f116.name, by decide, Try.func116.trans (congrArg some (by kernel_rfl))⟩
  f50 := ⟨Try.f117.name, by decide, Try.func117.trans (congrArg some (by kernel_rfl))⟩
  f57 := ⟨Try.f118.name, by decide, Try.func118.trans (congrArg some (by kernel_rfl))⟩
  t0 := Try.underlying0
  a0 := Try.isAgg0
  z0 := Try.sizeOf0
  v0 := Try.zeroValue0
  t3 := Try.underlying3
  a3 := Try.isAgg3
  z3 := Try.sizeOf3
  v3 := Try.zeroValue3
  t4 := Try.underlying4
  a4 := Try.isAgg4
  z4 := Try.sizeOf4
  v4 := Try.zeroValue4
  t5 := Try.underlying5
  a5 := Try.isAgg5
  z5 := Try.sizeOf5
  v5 := Try.zeroValue5
  t9 := Try.underlying9
  a9 := Try.isAgg9
  z9 := Try.sizeOf9
  v9 := Try.zeroValue9
  t22 := Try.underlying30
  a22 := Try.isAgg30
  z22 := Try.sizeOf30
  v22 := Try.zeroValue30
  t25 := Try.underlying149
  a25 := Try.isAgg149
  z25 := Try.sizeOf149
  v25 := Try.zeroValue149
  t39 := Try.underlying165
  a39 := Try.isAgg165
  z39 := Try.sizeOf165
  v39 := Try.zeroValue165
  t45 := Try.underlying169
  a45 := Try.isAgg169
  z45 := Try.sizeOf169
  v45 := Try.zeroValue169
  t46 := Try.underlying170
  a46 := Try.isAgg170
  z46 := Try.sizeOf170
  v46 := Try.zeroValue170
  t50 := Try.underlying174
  a50 := Try.isAgg174
  z50 := Try.sizeOf174
  v50 := Try.zeroValue174
  t53 := Try.underlying177
  a53 := Try.isAgg177
  z53 := Try.sizeOf177
  v53 := Try.zeroValue177
  t55 := Try.underlying179
  a55 := Try.isAgg179
  z55 := Try.sizeOf179
  v55 := Try.zeroValue179
  t66 := Try.underlying180
  a66 := Try.isAgg180
  z66 := Try.sizeOf180
  v66 := Try.zeroValue180
  t70 := Try.underlying184
  a70 := Try.isAgg184
  z70 := Try.sizeOf184
  v70 := Try.zeroValue184
  t76 := Try.underlying186
  a76 := Try.isAgg186
  z76 := Try.sizeOf186
  v76 := Try.zeroValue186
  t77 := Try.underlying187
  a77 := Try.isAgg187
  z77 := Try.sizeOf187
  v77 := Try.zeroValue187 }
end Go.Proofs.Ytcfhbnfincpehaa

/- The walk of package path: ahead, sorted. -/
namespace Go.Proofs.Ytcfhbnfincpehaa
open Go.RowKit Go.Shelf Go.Proofs Go.Lib Go.Sort

def orOf (x y : Int) : Int := if x = 0 then y else x
theorem Or_two (x y : Int) (b : Nat) (w : World) (h0 : w.cell? ⟨b, 0, none⟩ = some (I x)) (h1 : w.cell? ⟨b, 1, none⟩ = some (I y)) :
    Calls Try.prog 100 #[.slice (some ⟨b, 0, none⟩) 2 2] w fun e w' => e = .returned (I (orOf x y)) ∧ w = w' := by
  go_enter Try.func100, Try.ntmps100
  go_wp2
  go_loop [8] (fun i => i = I 0 ∨ (i = I 1 ∧ Hid (x = 0)) ∨ (i = I 2 ∧ Hid (x = 0 ∧ y = 0))) (fun i => 2 - (intOf i).toNat)
  case atStart => exact .inl rfl
  case round =>
    rcases hrel with rfl | ⟨rfl, hz⟩ | ⟨rfl, hz⟩
    · by_cases hx : x = 0
      · go_wp2
        go_round
        case rel => exact .inr (.inl ⟨by go_num, hx⟩)
        case measure => simp [intOf]
      · go_wp2
        go_ret
        exact ⟨by simp [orOf, hx], rfl⟩
    · by_cases hx : y = 0
      · go_wp2
        go_round
        case rel => exact .inr (.inr ⟨by go_num, hz.out, hx⟩)
        case measure => simp [intOf]
      · go_wp2
        go_ret
        exact ⟨by simp [orOf, hz.out], rfl⟩
    · go_wp2
      go_ret
      have h := hz.out
      exact ⟨by simp [orOf, h.1, h.2], rfl⟩

/-- The world has grown alone. -/
def Grown (W w' : World) : Prop := ∃ q os, w' = grow (W.drewN q) os
theorem Grown.refl (W : World) : Grown W W := ⟨0, #[], by simp [World.drewN]⟩
theorem Grown.alloc {W w : World} (h : Grown W w) (o : Obj) : Grown W (w.alloc o) := by
  obtain ⟨q, os, rfl⟩ := h
  exact ⟨q, os ++ #[o], by rw [alloc_eq_grow, grow_grow]⟩
theorem Grown.drew {W w : World} (h : Grown W w) : Grown W w.drew := by
  obtain ⟨q, os, rfl⟩ := h
  exact ⟨q + 1, os, rfl⟩

/-- The difference by which states are sorted. -/
def aheadOf (s t : St) : Int := orOf (s.b - t.b) (s.d - t.d)
theorem ahead_any (s t : St) (w : World) (h1 : -1000 ≤ s.b ∧ s.b ≤ 1000 ∧ -5 ≤ s.d ∧ s.d ≤ 5) (h2 : -1000 ≤ t.b ∧ t.b ≤ 1000 ∧ -5 ≤ t.d ∧ t.d ≤ 5) :
    Calls Try.prog 87 #[.agg #[I s.b, I s.d], .agg #[I t.b, I t.d]] w fun e w' => e = .returned (I (aheadOf s t)) ∧ Grown w w' := by
  go_enter Try.func87, Try.ntmps87
  go_wp2_with (go_at_call 100; refine Calls.mono (Or_two (s.b - t.b) (s.d - t.d) _ _ (by simp [go_sem]) (by simp [go_sem])) ?_; rintro e w' ⟨rfl, rfl⟩)
  go_ret
  exact ⟨rfl, (((Grown.refl w).alloc _).alloc _).alloc _⟩
end Go.Proofs.Ytcfhbnfincpehaa

/- slices.SortFunc at states. -/
namespace Go.Proofs.Ytcfhbnfincpehaa
open Go.RowKit Go.Shelf Go.Proofs Go.Lib
open Go.Sort hiding Below

def okSt (s : St) : Prop := -1000 ≤ s.b ∧ s.b ≤ 1000 ∧ -5 ≤ s.d ∧ s.d ≤ 5
abbrev BSt := { s : St // okSt s }
instance : Inhabited BSt := ⟨⟨⟨0, 0⟩, by simp [okSt]⟩⟩
def encB (x : BSt) : List Value := encSt x.1
theorem ahead_less (s t : St) : decide (aheadOf s t < 0) = lessS s t := by
  unfold aheadOf orOf lessS
  by_cases h : s.b - t.b = 0
  · rw [if_pos h, decide_eq_decide]; omega
  · rw [if_neg h, decide_eq_decide]; omega
theorem lt_less (x y : BSt) : ltOf (fun x y : BSt => aheadOf x.1 y.1) x y = lessS x.1 y.1 := ahead_less _ _
theorem swoSt : SWO (ltOf fun x y : BSt => aheadOf x.1 y.1) where
  irrefl x := by rw [lt_less]; simp [lessS]
  trans x y z h1 h2 := by rw [lt_less] at *; simp [lessS] at *; omega
  ntrans x y z h1 h2 := by rw [lt_less] at *; simp [lessS] at *; omega

theorem sortWorldK_below {α : Type} [Inhabited α] (enc : α → List Value) (k B : Nat) (w : World) (g off n : Nat) (d : Array α) (os : Array Obj) (hg : B ≤ g) (hB : B ≤ w.heap.size) : Below B w (sortWorldK enc k w g off n d os) := by
  refine ⟨rfl, rfl, rfl, size_sortWorldK_c .., fun i hi => ?_⟩
  show ((w.heap.modify g _) ++ os)[i]? = w.heap[i]?
  rw [Array.getElem?_append_left (by simp; omega), Array.getElem?_modify, if_neg (by omega)]

theorem holds_of_row {w : World} {B g cap : Nat} {T : TypeId} {ds : List BSt} (h : Row w B T 2 g ds.length cap (ds.flatMap encB)) : HoldsK encB 2 w g 0 ds.toArray := by
  intro j hj
  rw [size_flatK, List.size_toArray] at hj
  have hi : j / 2 < ds.length := by omega
  rw [get_flatK _ _ _ _ (by simpa using hj), Nat.zero_add]
  refine ⟨h.cell j ?_, h.free j⟩
  have e := flatMap_get encB 2 (fun _ => rfl) ds (j / 2) (j % 2) ds[j / 2] (List.getElem?_eq_getElem hi) (Nat.mod_lt _ (by decide))
  rw [show j / 2 * 2 + j % 2 = j from by omega] at e
  rw [e, getElem!_pos ds.toArray (j / 2) (by simpa using hi)]
  have hl : j % 2 < (encB ds[j / 2]).length := by show j % 2 < 2; omega
  rw [List.getElem?_eq_getElem hl, getElem!_pos _ _ (by simpa using hl)]
  rfl

theorem cells_of_holds {w : World} {g : Nat} {d : Array BSt} (h : HoldsK encB 2 w g 0 d) : CellsAt w g 0 (d.toList.flatMap encB) := by
  intro i c hc
  have hl := (List.getElem?_eq_some_iff.1 hc).1
  rw [flatMap_len encB 2 (fun _ => rfl)] at hl
  have hi : i / 2 < d.toList.length := by omega
  have hi' : i / 2 < d.size := by simpa using hi
  have e := flatMap_get encB 2 (fun _ => rfl) d.toList (i / 2) (i % 2) d.toList[i / 2] (List.getElem?_eq_getElem hi) (Nat.mod_lt _ (by decide))
  rw [show i / 2 * 2 + i % 2 = i from by omega, hc] at e
  have h2 := (h.cell (i := i / 2) (c := i % 2) hi' (Nat.mod_lt _ (by decide))).1
  rw [show 0 + i / 2 * 2 + i % 2 = 0 + i from by omega] at h2
  rw [h2, getElem!_pos d (i / 2) hi']
  have hl2 : i % 2 < (encB d[i / 2]).length := by show i % 2 < 2; omega
  rw [getElem!_pos (encB d[i / 2]) _ hl2]
  rw [Array.getElem_toList, List.getElem?_eq_getElem hl2] at e
  exact e.symm

theorem enter_ahead (args : Array Value) (w : World) : (callFunc 87 args).run Try.prog w = .ok (.enter 87 args) w := by kernel_rfl

theorem sort_states {w : World} {B g cap : Nat} (ds : List BSt) (h : Row w B 39 2 g ds.length cap (ds.flatMap encB)) (hnd : ds.Nodup) (hB : B ≤ w.heap.size) (hs : ds.length ≤ 1000000) :
    Calls Try.prog 86 #[.slice (some ⟨g, 0, none⟩) ds.length cap, .func (.func 87) #[] #[]] w fun e w' => e = .returned (.tuple #[]) ∧
      ∃ ts : List BSt, ts.Perm ds ∧ ts.Pairwise (fun x y => lessS x.1 y.1 = true) ∧ CellsAt w' g 0 (ts.flatMap encB) ∧ Below B w w' := by
  have hcmp : CmpLays Try.prog 87 #[] encB 2 (fun x y => aheadOf x.1 y.1) g 0 ds.toArray.size w := fun m os dk hd x y => ahead_any x.1 y.1 _ x.2 y.2
  have hH := holds_of_row h
  have hcon := AnyQ.slices_SortFunc Try.sortSt 2 Try.isAgg39 Try.sizeOf39 encB (fun _ => rfl) (fun x v hv => by simp [encB, encSt] at hv; rcases hv with rfl | rfl <;> rfl) (fun x y => aheadOf x.1 y.1) swoSt 87 #[] g 0 cap ds.toArray w enter_ahead hcmp hH h.lt (by simp; omega)
  change Calls Try.prog 86 _ _ _ at hcon
  refine hcon.mono ?_
  rintro e w' ⟨rfl, d', n, os, ⟨hsz, _, hp⟩, hso, rfl⟩
  have hperm : d'.toList.Perm ds := by
    have e1 : d'.extract 0 ds.toArray.size = d' := by rw [← hsz]; simp
    rw [e1] at hp
    simpa using hp
  refine ⟨rfl, d'.toList, hperm, ?_, cells_of_holds (holdsK_sortWorldK encB 2 w g 0 n ds.toArray d' os h.lt hH hsz), sortWorldK_below _ _ _ _ _ _ _ _ _ h.ge hB⟩
  rw [List.pairwise_iff_getElem]
  intro i j hi hj hij
  have h1 := hso i j (Nat.zero_le _) hij (by simpa [hsz] using hj)
  rw [getElem!_pos d' i (by simpa using hi), getElem!_pos d' j (by simpa using hj), lt_less] at h1
  have hnd' : d'.toList.Nodup := hperm.nodup_iff.2 hnd
  have hne : d'.toList[i] ≠ d'.toList[j] := fun e => by have := (List.getElem_inj hnd').1 e; omega
  rw [Array.getElem_toList, Array.getElem_toList] at *
  have hne2 : d'[i].1 ≠ d'[j].1 := fun e => hne (Subtype.ext e)
  simp only [lessS, decide_eq_false_iff_not, decide_eq_true_eq] at h1 ⊢
  have : ¬ (d'[i].1.b = d'[j].1.b ∧ d'[i].1.d = d'[j].1.d) := fun ⟨a, b⟩ => hne2 (by cases hx : d'[i].1; cases hy : d'[j].1; simp_all)
  omega
end Go.Proofs.Ytcfhbnfincpehaa

/- The walk of package path: sorted. -/
namespace Go.Proofs.Ytcfhbnfincpehaa
open Go.RowKit Go.Shelf Go.Proofs

theorem nodup_len {α : Type} [DecidableEq α] : ∀ (xs ys : List α), xs.Nodup → (∀ x ∈ xs, x ∈ ys) → xs.length ≤ ys.length
  | [], ys, _, _ => Nat.zero_le _
  | x :: xs, ys, hn, hs => by
    have hx := hs x (by simp)
    have h1 := nodup_len xs (ys.erase x) (List.nodup_cons.1 hn).2 (fun y hy => (List.mem_erase_of_ne (fun e => by subst e; exact (List.nodup_cons.1 hn).1 hy)).2 (hs y (by simp [hy])))
    rw [List.length_erase_of_mem hx] at h1
    have := List.length_pos_of_mem hx
    simp; omega
theorem few_states (ls : List St) (hn : ls.Nodup) (hs : ∀ s ∈ ls, okSt s) : ls.length ≤ 22011 := by
  have h1 : (ls.map fun s => ((s.b + 1000) * 11 + (s.d + 5)).toNat).Nodup := by
    rw [List.Nodup, List.pairwise_map]
    refine List.Pairwise.imp_of_mem (fun {a b} ha hb hne e => hne ?_) hn
    obtain ⟨a1, a2, a3, a4⟩ := hs a ha
    obtain ⟨b1, b2, b3, b4⟩ := hs b hb
    have : a.b = b.b ∧ a.d = b.d := by omega
    cases a; cases b; simp_all
  have := nodup_len _ (List.range 22011) h1 (fun x hx => by
    obtain ⟨s, hsm, rfl⟩ := List.mem_map.1 hx
    obtain ⟨a1, a2, a3, a4⟩ := hs s hsm
    rw [List.mem_range]; omega)
  simpa using this

theorem elemSt : ElemOf Try.prog 30 39 2 16 := .mk' (z := .agg #[I 0, I 0]) Try.underlying30 (by kernel_rfl) rfl (by decide) (by decide)

/-- Of new memory. -/
def NewSl (B : Nat) (u : Value) : Prop := ∀ a n cap, u = .slice (some a) n cap → B ≤ a.block
set_option maxRecDepth 100000 in
set_option maxHeartbeats 1000000 in
theorem sorted_any (b : Nat) (P : St → Prop) (w : World) (hS : SetIs w b P) (hP : ∀ t, P t → okSt t) :
    Calls Try.prog 59 #[.map (some b)] w fun e w' => ∃ (ts : List St) (v : Value), e = .returned v ∧ SlOf encSt w' v ts ∧ (∀ t, t ∈ ts ↔ P t) ∧ ts.Pairwise (fun x y => lessS x y = true) ∧ NewSl w.heap.size v ∧ Below w.heap.size w w' := by
  obtain ⟨m, hm, hmP⟩ := hS
  have hlt := hm.lt
  have HmP := Lib.hid hmP
  have HP := Lib.hid hP
  clear hmP hP
  go_enter Try.func59, Try.ntmps59
  go_wp2_with (
     ((with_reducible show wpList _ _ _ (⟨_, Op.range _ _, _, _, _, _⟩ :: _) _ _); (refine wpList_rangeM rfl _ 114 rfl _ _ rfl goodSt.inj _ rfl hm ?_); intro ls w1 hW hN hls hbw1 hz1)
     have HN := Lib.hid hN
     have Hls := Lib.hid hls
     clear hN hls)
  have hfew : ls.length ≤ 22011 := few_states ls HN.out (fun s hs => HP.out s ((HmP.out s).1 ((Hls.out s).1 hs)))
  show Code.wp _ _ _ ⟨#[.map (some b), undef, .slice none 0 0, undef, .map (some b), .pointer (some ⟨w.heap.size, 0, none⟩), undef, undef, undef, undef, undef, undef, undef, undef, undef, undef, undef], []⟩ _
  go_loopg [2] (ls.length) (fun n v W => ∃ (ls2 : List St) (ds : List BSt), n = ls2.length ∧ WalkIs W b w.heap.size ekSt (fun _ : Unit => .bool true) m ls2 ∧ W.ownsRow (w.heap.size + 1) 39 2 v ds.length (ds.flatMap encB) ∧ ds.Nodup ∧
    (∀ x ∈ ds, P x.1 ∧ x.1 ∉ ls2) ∧ (∀ t, P t → t ∈ ls2 ∨ ∃ h, (⟨t, h⟩ : BSt) ∈ ds) ∧ (∀ t ∈ ls2, P t) ∧ Below w.heap.size w W ∧ w.heap.size < W.heap.size)
  case atStart => exact ⟨ls, [], rfl, hW, World.ownsRow_nil _ _ _ _, List.nodup_nil, by simp, fun t ht => .inl ((Hls.out t).2 ((HmP.out t).2 ht)), fun t ht => (HmP.out t).1 ((Hls.out t).1 ht), hbw1, by omega⟩
  case round =>
    obtain ⟨ls2, ds, rfl, hW2, ho, hnd, hd, hr, hp, hb2, hz2⟩ := hrel
    have HD := Lib.hid (And.intro hd (And.intro hr hp))
    have hdl : ds.length ≤ 22011 := by
      have := few_states (ds.map (·.1)) (by rw [List.Nodup, List.pairwise_map]; exact hnd.imp (fun h e => h (Subtype.ext e))) (fun s hs => by obtain ⟨x, _, rfl⟩ := List.mem_map.1 hs; exact x.2)
      simpa using this
    clear hd hr hp
    by_cases hne : ls2 = []
    · subst hne
      have hdn := fun ty => hW2.done (P := Try.prog) ty
      rcases ho.2 with ⟨rfl, h0⟩ | ⟨g, cap, cur, rfl, _⟩
      · have hno := fun W => AnyF.slices_SortFunc_none Try.sortSt none 0 (.func (.func 87) #[] #[]) W
        change ∀ W, Calls Try.prog 86 _ _ _ at hno
        go_wp2_with (go_at_call 86; refine Calls.mono (hno _) ?_; rintro e w' ⟨rfl, rfl⟩)
        go_ret
        have hds : ds = [] := List.eq_nil_of_length_eq_zero h0
        subst hds
        exact ⟨[], _, rfl, ⟨none, 0, rfl, ⟨Nat.le_refl _, by decide, fun _ => ⟨rfl, rfl⟩, fun h => absurd rfl h⟩⟩, fun t => ⟨by simp, fun h => by have := HD.out.2.1 t h; simp at this⟩, .nil, (fun a n cap h => (by have := (show (Value.slice none 0 0) = _ from h); cases this)), hb2⟩
      · rename_i hrest
        obtain ⟨hge, hk, hn, hc, hcs, _⟩ := hrest
        have hR : Row wr (w.heap.size + 1) 39 2 g ds.length cap (ds.flatMap encB) := ho
        have HR := Lib.hid hR
        clear ho hR hk hcs
        go_wp2_with (go_at_call 86; refine Calls.mono (sort_states ds HR.out hnd (by omega) (by omega)) ?_; rintro e w4 ⟨rfl, ts, hpm, hso, hce, hb4⟩)
        go_ret
        have hlen : (ts.map (·.1)).length = ds.length := by simp [hpm.length_eq]
        refine ⟨ts.map (·.1), _, rfl, ⟨some ⟨g, 0, none⟩, cap, by rw [hlen]; rfl, ⟨by rw [hlen]; exact hn, hc, fun h => (by cases h), fun _ => ⟨g, 0, rfl, Nat.lt_of_lt_of_le HR.out.lt hb4.size, ?_⟩⟩⟩, fun t => ?_, ?_, (fun a n cap h => (by cases h; show w.heap.size ≤ g; omega)), hb2.trans (hb4.mono (by omega))⟩
        · rw [List.flatMap_map]; exact hce
        · rw [List.mem_map]
          constructor
          · rintro ⟨x, hx, rfl⟩; exact (HD.out.1 x (hpm.mem_iff.1 hx)).1
          · intro h
            rcases HD.out.2.1 t h with h' | ⟨h1, h2⟩
            · simp at h'
            · exact ⟨⟨t, h1⟩, hpm.mem_iff.2 h2, rfl⟩
        · rw [List.pairwise_map]; exact hso
    · have ke : ∀ s : St, ekSt s = .agg #[I s.b, I s.d] := fun _ => rfl
      have HO := Lib.hid ho
      have HND := Lib.hid hnd
      clear ho hnd
      go_wp2_with (first
        | (((with_reducible show wpList _ _ _ (⟨_, Op.next _ _, _, _, _, _⟩ :: _) _ _); (refine wpList_nextM rfl _ rfl goodSt.inj _ _ rfl _ hW2 hne ?_); intro s u w3 hs hv hW3 hm3 hz3 hent)
           have ho3 := owns_moves HO.out hm3 (fun k hk => by have := owns_ge HO.out k hk; omega)
           have HO3 := Lib.hid ho3
           clear ho3)
        | ((at_builtin; (refine wpList_appendR rfl _ _ 30 rfl _ _ _ elemSt (w.heap.size + 1) (u2) (ds.length) (ds.flatMap encB) rfl ((HO3.out.alloc _).alloc _) _ _ ([I s.b, I s.d]) rfl rfl (Box.new' _ _ (by simp [hz3])) (by simp [Value.oneCell']) (by omega) (by first | omega | (simp only [World.size_alloc]; omega) | (simp; done)) ?_); intro g5 cap5 w5 hR5 hv5 hd5 hz5)))
      have hPs := HD.out.2.2 s hs
      have hok := HP.out s hPs
      have hon : ∀ k, u2.ownBlock = some k → w.heap.size + 1 ≤ k ∧ k < wr.heap.size := fun k hk => owns_ge HO.out k hk
      go_roundg ((ls2.filter (fun x => decide (x ≠ s))).length)
      case measure => exact List.length_filter_lt_length_iff_exists.2 ⟨s, hs, by simp⟩
      case rel =>
        have hlts := hW2.lt
        have hW5 : WalkIs w5 b w.heap.size ekSt (fun _ : Unit => .bool true) m (ls2.filter (fun x => decide (x ≠ s))) :=
          hW3.moves (((Moves.refl w3).alloc _ |>.alloc _).trans hv5 (fun _ _ h => h)) (fun h => by have := hon _ h; omega) (fun h => by have := hon _ h; omega)
        have hb3 : Below w.heap.size w w5 := (hb2.trans (hm3.below (by omega) (fun i hi => by omega))).trans ((((Below.refl _ _).alloc (by omega) _).alloc (by simp; omega) _).trans (hv5.below (by simp; omega) (fun i hi h => by have := hon _ h; omega)))
        refine ⟨_, ds ++ [⟨s, hok⟩], rfl, hW5, ?_, ?_, ?_, ?_, fun t ht => HD.out.2.2 t (List.mem_filter.1 ht).1, hb3, ?_⟩
        · have := hR5
          unfold Row at this
          simpa [encB, encSt] using this
        · refine List.nodup_append.2 ⟨HND.out, by simp, ?_⟩
          intro a ha c hc e
          rw [List.mem_singleton.1 hc] at e
          subst e
          exact (HD.out.1 _ ha).2 hs
        · intro x hx
          rcases List.mem_append.1 hx with hx | hx
          · exact ⟨(HD.out.1 x hx).1, fun h => (HD.out.1 x hx).2 (List.mem_filter.1 h).1⟩
          · rw [List.mem_singleton.1 hx]
            exact ⟨hPs, by simp⟩
        · intro t ht
          by_cases e : t = s
          · subst e; exact .inr ⟨hok, by simp⟩
          · rcases HD.out.2.1 t ht with h | ⟨h1, h2⟩
            · exact .inl (List.mem_filter.2 ⟨h, by simpa using e⟩)
            · exact .inr ⟨h1, by simp [h2]⟩
        · have := hb3.size; have := hW5.lt; omega
end Go.Proofs.Ytcfhbnfincpehaa

/- The walk of package path: Reach. -/
namespace Go.Proofs.Ytcfhbnfincpehaa
open Go.RowKit Go.Shelf Go.Proofs

theorem valid_start {l : La} {s : St} (he : startErr l s = 0) : Valid l ∧ isStart l s = true := by
  have hf : fault l = 0 := by
    unfold startErr at he; split at he
    · omega
    · simp_all
  refine ⟨fault_valid hf, ?_⟩
  cases h : isStart l s
  · simp [startErr, hf, h] at he
  · rfl

theorem Reach_err (l : La) (s : St) (row : Int) (ha pa : Option Addr) (hc pc : Nat) (w : World) (H : LaneAt w l ha hc pa pc) (he : startErr l s ≠ 0) :
    Calls Try.prog 18 #[.agg #[I l.boards, I l.rows, .slice ha l.hooks.length hc, .slice pa l.patches.length pc], .agg #[I s.b, I s.d], I row] w fun e w' => e = .returned (.tuple #[.slice none 0 0, .int .u8 0, I (startErr l s)]) ∧ Below w.heap.size w w' := by
  have hC := fun o1 o2 => started_err l s ha pa hc pc ((w.alloc o1).alloc o2) (H.below (((Below.refl _ _).alloc (Nat.le_refl _) _).alloc (by simp) _) (Nat.le_refl _)) he
  have HC := Lib.hid hC
  clear hC H
  go_enter Try.func18, Try.ntmps18
  go_wp2_with (go_at_call 56; refine Calls.mono (HC.out _ _) ?_; rintro e w1 ⟨rfl, hb1⟩
               have hbW : Below w.heap.size w w1 := Below.trans (by (repeat (first | assumption | exact Below.refl _ _ | refine Below.alloc ?_ (by first | omega | (simp only [World.size_alloc]; omega) | (simp; done) | (simp; omega)) _ | refine Below.setCell ?_ (by first | omega | (simp only [World.size_alloc]; omega) | (simp; done) | (simp; omega)) _))) (hb1.mono (by first | omega | (simp only [World.size_alloc]; omega) | (simp; done) | (simp; omega))))
  go_ret3
  exact ⟨rfl, hbW.alloc hbW.size _⟩

theorem Reach_row (l : La) (s : St) (row : Int) (ha pa : Option Addr) (hc pc : Nat) (w : World) (H : LaneAt w l ha hc pa pc) (he : startErr l s = 0) (hr : ¬ (0 ≤ row ∧ row ≤ l.rows - 1)) :
    Calls Try.prog 18 #[.agg #[I l.boards, I l.rows, .slice ha l.hooks.length hc, .slice pa l.patches.length pc], .agg #[I s.b, I s.d], I row] w fun e w' => e = .returned (.tuple #[.slice none 0 0, .int .u8 0, I 2]) ∧ Below w.heap.size w w' := by
  have hC := fun o1 o2 => started_ok l s ha pa hc pc ((w.alloc o1).alloc o2) (H.below (((Below.refl _ _).alloc (Nat.le_refl _) _).alloc (by simp) _) (Nat.le_refl _)) he
  have HC := Lib.hid hC
  have V := (valid_start he).1
  have r1 := V.r1
  have r2 := V.r2
  clear hC H
  go_enter Try.func18, Try.ntmps18
  go_wp2_with (first
    | (go_at_call 56; refine Calls.mono (HC.out _ _) ?_; rintro e w1 ⟨g, rfl, hg, hB, hb1⟩
       have x3 := (((Box.new w [I l.boards, I l.rows, .slice ha l.hooks.length hc, .slice pa l.patches.length pc] 37).alloc (.cells #[I s.b, I s.d] 39)).later hb1).cell 1 rfl
       have hbW : Below w.heap.size w w1 := Below.trans (by (repeat (first | assumption | exact Below.refl _ _ | refine Below.alloc ?_ (by first | omega | (simp only [World.size_alloc]; omega) | (simp; done) | (simp; omega)) _ | refine Below.setCell ?_ (by first | omega | (simp only [World.size_alloc]; omega) | (simp; done) | (simp; omega)) _))) (hb1.mono (by first | omega | (simp only [World.size_alloc]; omega) | (simp; done) | (simp; omega)))
       have hz1 := hb1.size
       simp only [World.size_alloc] at hz1
       have hlt : w.heap.size < w1.heap.size := by omega)
    | (go_at_call 57; refine Calls.mono (within_any _ _ _ _) ?_; rintro e w2 ⟨rfl, rfl⟩))
  go_ret3
  exact ⟨rfl, hbW.alloc hbW.size _⟩

/-- The verdict of a row. -/
structure RowVerdict (l : La) (s : St) (row : Nat) (ts : List St) (v : Int) : Prop where
  mem : ∀ t, t ∈ ts ↔ Rch l s row t
  sorted : ts.Pairwise (fun x y => lessS x y = true)
  sure : ts = [] → v = 2
  may : ts ≠ [] → (∃ j, j < row ∧ Gut l s j) → v = 1
  never : ts ≠ [] → ¬ (∃ j, j < row ∧ Gut l s j) → v = 0

theorem Reach_ok (l : La) (s : St) (row : Nat) (ha pa : Option Addr) (hc pc : Nat) (w : World) (H : LaneAt w l ha hc pa pc) (he : startErr l s = 0) (hr : (row : Int) < l.rows) :
    Calls Try.prog 18 #[.agg #[I l.boards, I l.rows, .slice ha l.hooks.length hc, .slice pa l.patches.length pc], .agg #[I s.b, I s.d], I row] w fun e w' => ∃ (ts : List St) (u : Value) (v : Int), e = .returned (.tuple #[u, .int .u8 v, I 0]) ∧ SlOf encSt w' u ts ∧ RowVerdict l s row ts v ∧ NewSl w.heap.size u ∧ Below w.heap.size w w' := by
  have hC := fun o1 o2 => started_ok l s ha pa hc pc ((w.alloc o1).alloc o2) (H.below (((Below.refl _ _).alloc (Nat.le_refl _) _).alloc (by simp) _) (Nat.le_refl _)) he
  have HC := Lib.hid hC
  obtain ⟨V, h0⟩ := valid_start he
  have r1 := V.r1
  have r2 := V.r2
  have b2 := V.b2
  have hon := onL_start h0
  have hd := start_d h0
  have hok : ∀ t, Rch l s row t → okSt t := fun t ht => by
    have h1 := Rch.on hon ht
    have h2 := Rch.d hd ht
    have h3 : 1 ≤ t.b ∧ t.b ≤ l.boards := by simpa [onL] using h1
    exact ⟨by omega, by omega, h2.1, h2.2⟩
  have HK := Lib.hid hok
  have H0 := Lib.hid h0
  have hq : (row : Int) ≤ l.rows - 1 := by omega
  clear hC H hok hon h0
  go_enter Try.func18, Try.ntmps18
  go_wp2_with (first
    | (go_at_call 56; refine Calls.mono (HC.out _ _) ?_; rintro e w1 ⟨g, rfl, hg, hB, hb1⟩
       have x3 := (((Box.new w [I l.boards, I l.rows, .slice ha l.hooks.length hc, .slice pa l.patches.length pc] 37).alloc (.cells #[I s.b, I s.d] 39)).later hb1).cell 1 rfl
       have y0 := ((Box.new' (w := w.alloc (.cells #[I l.boards, I l.rows, .slice ha l.hooks.length hc, .slice pa l.patches.length pc] 37)) [I s.b, I s.d] 39 (by simp)).later hb1).cell (b := w.heap.size + 1) 0 rfl
       have y1 := ((Box.new' (w := w.alloc (.cells #[I l.boards, I l.rows, .slice ha l.hooks.length hc, .slice pa l.patches.length pc] 37)) [I s.b, I s.d] 39 (by simp)).later hb1).cell (b := w.heap.size + 1) 1 rfl
       have hbW : Below w.heap.size w w1 := Below.trans (by (repeat (first | assumption | exact Below.refl _ _ | refine Below.alloc ?_ (by first | omega | (simp only [World.size_alloc]; omega) | (simp; done) | (simp; omega)) _ | refine Below.setCell ?_ (by first | omega | (simp only [World.size_alloc]; omega) | (simp; done) | (simp; omega)) _))) (hb1.mono (by first | omega | (simp only [World.size_alloc]; omega) | (simp; done) | (simp; omega)))
       have hz1 := hb1.size
       simp only [World.size_alloc] at hz1
       have hlt : w.heap.size < w1.heap.size := by omega
       have hlt1 : w.heap.size + 1 < w1.heap.size := by omega)
    | (go_at_call 57; refine Calls.mono (within_any _ _ _ _) ?_; rintro e w2 ⟨rfl, rfl⟩)
    | (go_at_call 58; refine Calls.mono (reached_any l s ha pa hc pc g _ (hB.later (by (repeat (first | assumption | exact Below.refl _ _ | refine Below.alloc ?_ (by first | omega | (simp only [World.size_alloc]; omega) | (simp; done) | (simp; omega)) _ | refine Below.setCell ?_ (by first | omega | (simp only [World.size_alloc]; omega) | (simp; done) | (simp; omega)) _)))) H0.out) ?_; rintro e w3 ⟨A, cap, ms, γ, rfl, R⟩
       have hrl : row < ms.length := by rw [R.len]; omega
       have hrn : row < l.rows.toNat := by omega
       have yr : w3.cell? ⟨A, row, none⟩ = some (.map (some ms[row])) := R.row.cell row (by simp [hrl])
       have hset := (R.sets row hrl).2
       have hgut : Hid (γ ≤ row ↔ ∃ j, j < row ∧ Gut l s j) := (R.gut.le row hr).trans ⟨fun ⟨j, h1, h2⟩ => ⟨j, h1, h2.2⟩, fun ⟨j, h1, h2⟩ => ⟨j, h1, by omega, h2⟩⟩
       have hb3 := R.below)
    | (go_at_call 59; refine Calls.mono (sorted_any _ (Rch l s row) w3 hset HK.out) ?_; rintro e w4 ⟨ts, u, rfl, ⟨a2, cap2, rfl, hsl⟩, q2, q3, hnw, hb4⟩
       have hbd := hsl.bd))
  all_goals
    have hs3 := hb3.size
    simp only [World.size_alloc] at hs3
    have hsz := hbW.size
    have hnF : NewSl w.heap.size (.slice a2 ts.length cap2) := fun a n cap h => by have := hnw a n cap h; omega
    have hbF : Below w.heap.size w w4 := hbW.trans ((((Below.refl _ w1).alloc hbW.size _).trans (hb3.mono (by simp only [World.size_alloc]; omega))).trans (hb4.mono (by omega)))
  · rename_i h
    have hts : ts = [] := by simpa using h
    go_ret3
    exact ⟨ts, _, 2, rfl, ⟨a2, cap2, rfl, hsl⟩, ⟨q2, q3, fun _ => rfl, fun h => absurd hts h, fun h => absurd hts h⟩, hnF, hbF⟩
  · rename_i h1 h2
    go_ret3
    exact ⟨ts, _, 1, rfl, ⟨a2, cap2, rfl, hsl⟩, ⟨q2, q3, fun e => by simp [e] at h1, fun _ _ => rfl, fun _ h => absurd (hgut.out.1 h2) h⟩, hnF, hbF⟩
  · rename_i h1 h2
    go_ret3
    exact ⟨ts, _, 0, rfl, ⟨a2, cap2, rfl, hsl⟩, ⟨q2, q3, fun e => by simp [e] at h1, fun _ h => by have := hgut.out.2 h; omega, fun _ _ => rfl⟩, hnF, hbF⟩
end Go.Proofs.Ytcfhbnfincpehaa

/- The walks of package path: hit, miss, valid. -/
namespace Go.Proofs.Ytcfhbnfincpehaa
open Go.RowKit Go.Shelf Go.Proofs

/-- A pocket is hit. -/
def hitsP (p : Pk) (arrived : Bool) (s : St) : Bool := arrived && inR s.b p.boards && inR s.d p.dirs

theorem hit_any (p : Pk) (arrived : Bool) (s : St) (w : World) :
    Calls Try.prog 91 #[.agg #[I p.boards.lo, I p.boards.hi, I p.dirs.lo, I p.dirs.hi], .bool arrived, .agg #[I s.b, I s.d]] w fun e w' => e = .returned (.bool (hitsP p arrived s)) ∧ Below w.heap.size w w' := by
  go_enter Try.func91, Try.ntmps91
  cases arrived
  · go_wp2_with fail
    go_ret
    exact ⟨rfl, by (repeat (first | assumption | exact Below.refl _ _ | refine Below.alloc ?_ (by first | omega | (simp only [World.size_alloc]; omega) | (simp; done) | (simp; omega)) _ | refine Below.setCell ?_ (by first | omega | (simp only [World.size_alloc]; omega) | (simp; done) | (simp; omega)) _))⟩
  · cases hh : inR s.b p.boards
    · go_wp2_with (go_at_call 81; refine Calls.mono (has_any p.boards s.b _) ?_; rintro e w1 ⟨rfl, hb1⟩
                   have hbW : Below w.heap.size w w1 := Below.trans (by (repeat (first | assumption | exact Below.refl _ _ | refine Below.alloc ?_ (by first | omega | (simp only [World.size_alloc]; omega) | (simp; done) | (simp; omega)) _ | refine Below.setCell ?_ (by first | omega | (simp only [World.size_alloc]; omega) | (simp; done) | (simp; omega)) _))) (hb1.mono (by first | omega | (simp only [World.size_alloc]; omega) | (simp; done) | (simp; omega))))
      go_ret
      exact ⟨ret_bool (by simp [hitsP, hh]), hbW⟩
    · go_wp2_with (first
        | (go_at_call 81; (with_reducible show Calls _ _ #[.agg #[I p.boards.lo, I p.boards.hi], I s.b] _ _); refine Calls.mono (has_any p.boards s.b _) ?_; rintro e w1 ⟨rfl, hb1⟩
           have hbW : Below w.heap.size w w1 := Below.trans (by (repeat (first | assumption | exact Below.refl _ _ | refine Below.alloc ?_ (by first | omega | (simp only [World.size_alloc]; omega) | (simp; done) | (simp; omega)) _ | refine Below.setCell ?_ (by first | omega | (simp only [World.size_alloc]; omega) | (simp; done) | (simp; omega)) _))) (hb1.mono (by first | omega | (simp only [World.size_alloc]; omega) | (simp; done) | (simp; omega)))
           have x2 := ((Box.new w [I p.boards.lo, I p.boards.hi, I p.dirs.lo, I p.dirs.hi] 62).alloc (.cells #[I s.b, I s.d] 39)).later hb1
           have y2 := x2.cell 2 rfl
           have y3 := x2.cell 3 rfl
           have z1 := ((Box.new' (w := w.alloc (.cells #[I p.boards.lo, I p.boards.hi, I p.dirs.lo, I p.dirs.hi] 62)) [I s.b, I s.d] 39 (by simp)).later hb1).cell (b := w.heap.size + 1) 1 rfl)
        | (go_at_call 81; refine Calls.mono (has_any p.dirs s.d _) ?_; rintro e w2 ⟨rfl, hb2⟩))
      go_ret
      exact ⟨ret_bool (by simp [hitsP, hh]), hbW.trans (hb2.mono hbW.size)⟩

theorem miss_any (p : Pk) (arrived : Bool) (s : St) (w : World) :
    Calls Try.prog 92 #[.agg #[I p.boards.lo, I p.boards.hi, I p.dirs.lo, I p.dirs.hi], .bool arrived, .agg #[I s.b, I s.d]] w fun e w' => e = .returned (.bool (!hitsP p arrived s)) ∧ Below w.heap.size w w' := by
  go_enter Try.func92, Try.ntmps92
  go_wp2_with (go_at_call 91; refine Calls.mono (hit_any p arrived s _) ?_; rintro e w1 ⟨rfl, hb1⟩
               have hbW : Below w.heap.size w w1 := Below.trans (by (repeat (first | assumption | exact Below.refl _ _ | refine Below.alloc ?_ (by first | omega | (simp only [World.size_alloc]; omega) | (simp; done) | (simp; omega)) _ | refine Below.setCell ?_ (by first | omega | (simp only [World.size_alloc]; omega) | (simp; done) | (simp; omega)) _))) (hb1.mono (by first | omega | (simp only [World.size_alloc]; omega) | (simp; done) | (simp; omega))))
  go_ret
  exact ⟨rfl, hbW⟩

theorem valid_any (p : Pk) (w : World) :
    Calls Try.prog 71 #[.agg #[I p.boards.lo, I p.boards.hi, I p.dirs.lo, I p.dirs.hi]] w fun e w' => e = .returned (.bool (isPocket p)) ∧ Below w.heap.size w w' := by
  go_enter Try.func71, Try.ntmps71
  go_wp2_with fail
  all_goals
    go_ret
    exact ⟨ret_bool (by first | (simp [isPocket]; omega) | simp [isPocket, *]), by (repeat (first | assumption | exact Below.refl _ _ | refine Below.alloc ?_ (by first | omega | (simp only [World.size_alloc]; omega) | (simp; done) | (simp; omega)) _ | refine Below.setCell ?_ (by first | omega | (simp only [World.size_alloc]; omega) | (simp; done) | (simp; omega)) _))⟩
end Go.Proofs.Ytcfhbnfincpehaa

/- The walks of package path: aimers. -/
namespace Go.Proofs.Ytcfhbnfincpehaa
open Go.RowKit Go.Shelf Go.Proofs

set_option maxHeartbeats 4000000 in
theorem aimers_any (l : La) (p : Pk) (ha pa : Option Addr) (hc pc g : Nat) (w : World) :
    Calls Try.prog 73 #[.agg #[I l.boards, I l.rows, .slice ha l.hooks.length hc, .slice pa l.patches.length pc, .slice (some ⟨g, 0, none⟩) l.rows.toNat l.rows.toNat], .agg #[I p.boards.lo, I p.boards.hi, I p.dirs.lo, I p.dirs.hi]] w fun e w' => ∃ A1 A2 m1 m2 : Nat, e = .returned (.tuple #[.pointer (some ⟨A1, 0, none⟩), .pointer (some ⟨A2, 0, none⟩)]) ∧
      Box w' A1 [I l.boards, I l.rows, .slice ha l.hooks.length hc, .slice pa l.patches.length pc, .slice (some ⟨g, 0, none⟩) l.rows.toNat l.rows.toNat, I p.boards.lo, I p.boards.hi, I p.dirs.lo, I p.dirs.hi, .func (.func 91) #[] #[], .map (some m1)] ∧ Box w' A2 [I l.boards, I l.rows, .slice ha l.hooks.length hc, .slice pa l.patches.length pc, .slice (some ⟨g, 0, none⟩) l.rows.toNat l.rows.toNat, I p.boards.lo, I p.boards.hi, I p.dirs.lo, I p.dirs.hi, .func (.func 92) #[] #[], .map (some m2)] ∧ MapIs w' m1 ekSp (fun b => .bool b) (fun _ => none) ∧ MapIs w' m2 ekSp (fun b => .bool b) (fun _ => none) ∧
      w.heap.size ≤ A1 ∧ w.heap.size ≤ A2 ∧ w.heap.size ≤ m1 ∧ w.heap.size ≤ m2 ∧ m1 ≠ m2 ∧ Below w.heap.size w w' := by
  have hmm := @run_makeMap Try.prog
  go_enter Try.func73, Try.ntmps73
  go_wp2_with fail
  go_region
  all_goals
    go_wp2_with fail
    go_ret2
    apply Exists.intro; apply Exists.intro; apply Exists.intro; apply Exists.intro
    refine ⟨rfl, ?_, ?_, ?_, ?_, ?_, ?_, ?_, ?_, ?_, ?_⟩
    · refine Box.drew ?_
      repeat (first | exact Box.new' _ _ (by simp) | refine Box.alloc ?_ _)
    · refine Box.drew ?_
      repeat (first | exact Box.new' _ _ (by simp) | refine Box.alloc ?_ _)
    · refine MapIs.at_ (w := World.alloc _ _) ?_ rfl
      repeat (first | (refine MapIs.made' _ _ ?_; simp; done) | refine MapIs.alloc ?_ _)
    · refine MapIs.at_ (w := World.alloc _ _) ?_ rfl
      repeat (first | (refine MapIs.made' _ _ ?_; simp; done) | refine MapIs.alloc ?_ _)
    all_goals first | omega | (refine Below.drew ?_; (repeat (first | assumption | exact Below.refl _ _ | refine Below.alloc ?_ (by first | omega | (simp only [World.size_alloc]; omega) | (simp; done) | (simp; omega)) _ | refine Below.setCell ?_ (by first | omega | (simp only [World.size_alloc]; omega) | (simp; done) | (simp; omega)) _)))
end Go.Proofs.Ytcfhbnfincpehaa

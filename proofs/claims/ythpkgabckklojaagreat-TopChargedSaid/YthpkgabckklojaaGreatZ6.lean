/- Own texts, laid together: ShBl B6 B7 B8 B9 B10 BS C1. Nothing is asked. -/
import Derived.Shelf.SlGeneric
import Derived.Shelf.SlSortCmp.WholeK
import Derived.Shelf.Spec.SlicesGrow
import Derived.Ground.SlsfProg
import Derived.Test.YthpkgabckklojaaGreatProg
import Derived.Test.YthpkgabckklojaaGreatZ5
import Derived.Test.YthpkgabckklojaaGreatZ4
set_option linter.unusedSimpArgs false
set_option linter.unusedVariables false
/-
  DERIVED: THE SHELF's CONTRACTS AT THIS DUMP, IN PLAIN WORDS (tools/lay-plain.mjs out of 'TryShelf.lean', which tools/lay-shelf.mjs wrote): THE SAME DECLARATIONS UNDER THE SAME NAMES: 'import', 'namespace', 'open', 'def', 'theorem' AND NOTHING ELSE: no command of the shelf's: FOR A HAND-IN. Each laying: the table of numbers ('.._ren') and one theorem, a field a fact of the dump's own or the kernel's comparison; each contract: ONE APPLICATION.
-/
namespace Go.Proofs.YthpkgabckklojaaGreat
open Go.Shelf Go.Proofs
def Tryz.growI_ren : Go.Shelf.Ren := ⟨fun | 4 => 135 | n => n, fun | 22 => 31 | 25 => 3 | 3 => 3 | 4 => 4 | 9 => 9 | 20 => 20 | 0 => 0 | n => n, fun | n => n⟩
theorem Tryz.growI : Go.Proofs.Lays8.n4 Tryz.prog Tryz.growI_ren := {
  mixed := by kernel_rfl
  f4 := ⟨Tryz.f135.name, by decide, Tryz.func135.trans (congrArg some (by kernel_rfl))⟩
  t0 := Tryz.underlying0
  a0 := Tryz.isAgg0
  z0 := Tryz.sizeOf0
  v0 := Tryz.zeroValue0
  t3 := Tryz.underlying3
  a3 := Tryz.isAgg3
  z3 := Tryz.sizeOf3
  v3 := Tryz.zeroValue3
  t4 := Tryz.underlying4
  a4 := Tryz.isAgg4
  z4 := Tryz.sizeOf4
  v4 := Tryz.zeroValue4
  t9 := Tryz.underlying9
  a9 := Tryz.isAgg9
  z9 := Tryz.sizeOf9
  v9 := Tryz.zeroValue9
  t20 := Tryz.underlying20
  a20 := Tryz.isAgg20
  z20 := Tryz.sizeOf20
  v20 := Tryz.zeroValue20
  t22 := Tryz.underlying31
  a22 := Tryz.isAgg31
  z22 := Tryz.sizeOf31
  v22 := Tryz.zeroValue31 }
end Go.Proofs.YthpkgabckklojaaGreat

/- Walks of bill: lists put together. -/
namespace Go.Proofs.YthpkgabckklojaaGreat.Bl
open Go.RowKit Go.Shelf Go.Proofs

theorem Grow_x (n : Nat) (hn : 0 < n) (hn2 : n ≤ 1000) : Cx Tryz.prog 135 [.slice none 0 0, I n] [] KTrue (fun q : Nat × Nat => .slice (some ⟨q.1, 0, none⟩) 0 q.2) (fun q => [ow (.slice (some ⟨q.1, 0, none⟩) 0 q.2) 3 1 0 []]) (fun _ => KTrue) := by
  intro M w a1 a2 a3 a4
  obtain ⟨i0, h1, h2⟩ := Option.map_eq_some_iff.1 (show (Tryz.prog.info? (Tryz.growI_ren.t 25)).map (fun i => (i.zero, i.size, i.bytes)) = some (some (I 0), 1, 8) by kernel_rfl)
  simp only [Prod.mk.injEq] at h2
  obtain ⟨h2, h3, h4⟩ := h2
  have hc := Any8.slices_Grow_grow Tryz.growI i0 (I 0) h1 h2 (by omega) none 0 0 n [] w (Nat.le_refl _) (by omega) (by rw [h4]; omega) (by omega) (by simp) (fun _ => rfl) (fun a h => by cases h)
  refine Calls.mono (show Calls Tryz.prog 135 _ w _ from hc) ?_
  rintro e w' ⟨rfl, rfl⟩
  have hg := grownCap_ge w (0 + n) 0 (Tryz.growI_ren.t 25)
  have hm := grownCap_le_maxLen w (0 + n) 0 (Tryz.growI_ren.t 25) (by unfold maxLen; omega)
  generalize hC : grownCap w (0 + n) 0 (Tryz.growI_ren.t 25) = C at hg hm ⊢
  refine ⟨(w.heap.size, C), fun b => M b ∨ b = w.heap.size, rfl, ?_, fun _ h => .inl h, fun _ h => h.imp id (fun e => by omega), fun x hx => ?_, fun c hc => ?_, by simp, fun _ _ => trivial⟩
  · refine ⟨rfl, rfl, rfl, ?_, fun i hi _ => ?_⟩
    · rw [World.size_alloc]; exact Nat.le_succ _
    · show (w.drew.heap.push _)[i]? = _
      rw [Array.getElem?_push, if_neg (by show ¬ i = w.heap.size; omega)]; rfl
  · rw [World.size_alloc]
    rcases hx with h | h
    · have := a1 x h; show x < w.heap.size + 1; omega
    · show x < w.heap.size + 1; omega
  · obtain rfl := List.mem_singleton.1 hc
    refine ⟨ow_holds ⟨rfl, .inr ⟨w.heap.size, C, #[] ++ Builtin.zeroCells (I 0).cells (0 + n - 0) ++ Builtin.zeroCells (I 0).cells (C - (0 + n)), rfl, Nat.zero_le _, ?_, Nat.zero_le _, hm, ?_, ?_⟩⟩, fun b hb => ?_⟩
    · show (w.drew.heap.push _)[w.heap.size]? = _
      rw [Array.getElem?_push, if_pos (by rfl)]; rfl
    · simp [Builtin.zeroCells, Value.cells]; omega
    · simp
    · have hb : b = w.heap.size := by
        have : (Value.slice (some (⟨w.heap.size, 0, none⟩ : Addr)) 0 C).ownBlock = some b := hb
        simpa [Value.ownBlock] using this.symm
      subst hb
      exact ⟨.inr rfl, .inr (Nat.le_refl _)⟩
/-- A list of numbers, with where it lies. -/
structure SL where
  a : Option Addr
  c : Nat
  l : List Int
def encSL (s : SL) : List Value := [.slice s.a s.l.length s.c]
instance : Rec encSL 1 := ⟨fun _ => rfl, by decide⟩
def KSLs (ps : List SL) : World → Prop := fun w => ∀ s ∈ ps, KSl s.a s.l.length s.c encI s.l w
def catL (ps : List SL) : List Int := ps.flatMap (·.l)
theorem catL_snoc {ps : List SL} {i : Nat} (h : i < ps.length) : catL (ps.take (i + 1)) = catL (ps.take i) ++ ps[i].l := by
  unfold catL
  rw [take_snoc h, List.flatMap_append]; simp
theorem catL_le (ps : List SL) (i : Nat) : (catL (ps.take i)).length ≤ (catL ps).length := by
  unfold catL
  conv => rhs; rw [← List.take_append_drop i ps, List.flatMap_append, List.length_append]
  omega
set_option maxRecDepth 100000 in
set_option maxHeartbeats 1000000 in
theorem Concat_j (ps : List SL) (a : Option Addr) (c : Nat) (hn : 0 < (catL ps).length) (hn2 : (catL ps).length ≤ 1000) : Cr Tryz.prog 89 [.slice a ps.length c] (KAnd (KSl a ps.length c encSL ps) (KSLs ps)) (fun q : Option Addr × Nat => .slice q.1 (catL ps).length q.2) (fun q => KSl q.1 (catL ps).length q.2 encI (catL ps)) := by
  refine Cx_of Tryz.func89 rfl Tryz.ntmps89 rfl fun w0 M0 => ?_
  refine JC_seq ?_
  refine JC_region ?_
  refine JL_pd rfl (det_assign rfl) ?_
  refine JL_nil ?_
  refine JE_seq ?_
  refine JC_seq ?_
  refine JC_region ?_
  refine JL_pd rfl (det_assign rfl) ?_
  refine JL_nil ?_
  refine JE_seq ?_
  refine JC_seq ?_
  refine JC_seq ?_
  refine JC_region ?_
  refine JL_pd rfl (det_move rfl) ?_
  refine JL_pd rfl (det_len rfl Tryz.runUnderlying251) ?_
  refine JL_pd rfl (det_move rfl) ?_
  refine JL_nil ?_
  refine JE_seq ?_
  refine JC_block ?_
  -- stop: loop
  refine JC_pure (p := ps.length ≤ 9223372036854775807) (by intro w h; exact h.1.1.bd) fun hz => ?_
  refine JC_loopF (γ := Nat) (fun i => i ≤ ps.length) (fun i => [(11, I i), (3, I (catL (ps.take i)).length)]) (fun _ => []) (fun i => ps.length - i) 0 (Nat.zero_le _) (stsub_consI rfl rfl (stsub_consI rfl (by rw [List.take_zero]; rfl) stsub_nil)) ht_nil ?_
  intro i hi K hK
  dsimp only [List.cons_append, List.nil_append]
  refine JC_seq ?_
  refine JC_region ?_
  refine JL_pd rfl (det_lss rfl rfl) ?_
  refine JL_nil ?_
  refine JE_seq ?_
  refine JC_seq ?_
  -- stop: cond
  refine JC_if rfl (fun h1 => ?_) (fun h1 => ?_)
  · have hi2 : i < ps.length := by omega
    have hs := catL_snoc hi2
    have hle := catL_le ps (i + 1)
    rw [hs, List.length_append] at hle
    refine JC_skip ?_
    refine JE_seq ?_
    refine JC_seq ?_
    refine JC_block ?_
    refine JC_seq ?_
    refine JC_region ?_
    refine JL_dt rfl (det_indexAddr rfl rfl (by first | rfl | omega) (by first | assumption | omega | decide) Tryz.runUnderlying251 Tryz.sizeOf31) ?_
    refine JL_dt rfl (det_loadE (n := ps.length) (xs := ps) (v := .slice ps[i].a ps[i].l.length ps[i].c) rfl hi2 Tryz.isAgg31 rfl rfl) ?_
    refine JL_pd rfl (det_assign rfl) ?_
    refine JL_nil ?_
    refine JE_seq ?_
    refine JC_seq ?_
    refine JC_region ?_
    refine JL_pd rfl (det_move rfl) ?_
    refine JL_pd rfl (det_move rfl) ?_
    refine JL_pd rfl (det_len rfl Tryz.runUnderlying31) ?_
    refine JL_pd rfl (det_add rfl rfl ⟨by omega, by omega⟩) ?_
    refine JL_pd rfl (det_assign rfl) ?_
    refine JL_nil ?_
    refine JE_seq ?_
    refine JC_seq ?_
    refine JC_region ?_
    refine JL_pd rfl (det_move rfl) ?_
    refine JL_pd rfl (det_lss rfl rfl) ?_
    refine JL_nil ?_
    refine JE_seq ?_
    -- stop: cond
    refine JC_if rfl (fun h2 => ?_) (fun h2 => ?_)
    · exact absurd h2 (by omega)
    refine JC_skip ?_
    refine JE_block ?_
    refine JE_seq ?_
    refine JC_region ?_
    refine JL_pd rfl (det_add rfl rfl ⟨by omega, by omega⟩) ?_
    refine JL_pd rfl (det_move rfl) ?_
    refine JL_nil ?_
    -- stop: end
    exact JE_roundF hK (i + 1) (by omega) (by omega) (stsub_consI rfl (by omega) (stsub_consI rfl (by rw [hs, List.length_append]; omega) stsub_nil)) ht_nil
  · obtain rfl : i = ps.length := by omega
    rw [List.take_length]
    refine JC_exit ?_
    refine JE_seq_exit ?_
    refine JE_then_exit ?_
    refine JE_block_here ?_
    refine JE_seq ?_
    refine JC_seq ?_
    refine JC_region ?_
    refine JL_pd rfl (det_move rfl) ?_
    refine JL_step rfl rfl rfl (jo_call rfl rfl Tryz.call135 rfl (Grow_x (catL ps).length hn hn2)) fun x24 => ?_
    refine JL_pd rfl (det_assign rfl) ?_
    refine JL_nil ?_
    refine JE_seq ?_
    refine JC_seq ?_
    refine JC_seq ?_
    refine JC_region ?_
    refine JL_pd rfl (det_move rfl) ?_
    refine JL_pd rfl (det_len rfl Tryz.runUnderlying251) ?_
    refine JL_pd rfl (det_move rfl) ?_
    refine JL_nil ?_
    refine JE_seq ?_
    refine JC_block ?_
    -- stop: loop
    refine JC_loopF (γ := Nat × Value) (fun q => q.1 ≤ ps.length) (fun q => [(27, I q.1), (6, q.2)]) (fun q => [ow q.2 3 1 (catL (ps.take q.1)).length ((catL (ps.take q.1)).flatMap encI)]) (fun q => ps.length - q.1) (0, .slice (some ⟨x24.1, 0, none⟩) 0 x24.2) (Nat.zero_le _) (stsub_consI rfl rfl (stsub_cons rfl stsub_nil)) (ht_ow (by rw [List.take_zero]; rfl) (by rw [List.take_zero]; rfl) ht_nil) ?_
    rintro ⟨i, v⟩ hi K hK
    dsimp only [List.cons_append, List.nil_append] at hi ⊢
    refine JC_seq ?_
    refine JC_region ?_
    refine JL_pd rfl (det_lss rfl rfl) ?_
    refine JL_nil ?_
    refine JE_seq ?_
    refine JC_seq ?_
    -- stop: cond
    refine JC_if rfl (fun h3 => ?_) (fun h3 => ?_)
    · have hi2 : i < ps.length := by omega
      have hs := catL_snoc hi2
      have hle := catL_le ps (i + 1)
      rw [hs, List.length_append] at hle
      refine JC_know (R' := KAnd (KSl ps[i].a ps[i].l.length ps[i].c encI ps[i].l) _) (fun w h => ⟨(Knows.know (F := KSLs ps) w h) _ (List.getElem_mem hi2), h⟩) ?_
      refine JC_skip ?_
      refine JE_seq ?_
      refine JC_seq ?_
      refine JC_block ?_
      refine JC_seq ?_
      refine JC_region ?_
      refine JL_dt rfl (det_indexAddr rfl rfl (by first | rfl | omega) (by first | assumption | omega | decide) Tryz.runUnderlying251 Tryz.sizeOf31) ?_
      refine JL_dt rfl (det_loadE (n := ps.length) (xs := ps) (v := .slice ps[i].a ps[i].l.length ps[i].c) rfl hi2 Tryz.isAgg31 rfl rfl) ?_
      refine JL_pd rfl (det_assign rfl) ?_
      refine JL_nil ?_
      refine JE_seq ?_
      refine JC_region ?_
      refine JL_pd rfl (det_move rfl) ?_
      refine JL_pd rfl (det_move rfl) ?_
      refine JL_step rfl rfl rfl (jo_appendK (e := encI) el_31 rfl rfl encI_one (by omega)) fun b33 => ?_
      refine JL_pd rfl (det_assign rfl) ?_
      refine JL_nil ?_
      refine JE_block ?_
      refine JE_seq ?_
      refine JC_region ?_
      refine JL_pd rfl (det_add rfl rfl ⟨by omega, by omega⟩) ?_
      refine JL_pd rfl (det_move rfl) ?_
      refine JL_nil ?_
      -- stop: end
      exact JE_roundF hK (i + 1, b33) (by simp only; omega) (by simp only; omega) (stsub_consI rfl (by simp only; omega) (stsub_cons rfl stsub_nil)) (ht_ow (by rw [hs, List.length_append]) (by rw [hs, List.flatMap_append]) ht_nil)
    · obtain rfl : i = ps.length := by omega
      rw [List.take_length]
      refine JC_slice (enc := encI) (v := v) (catL ps) noFp rfl rfl ?_
      rintro av cv rfl
      refine JC_exit ?_
      refine JE_seq_exit ?_
      refine JE_then_exit ?_
      refine JE_block_here ?_
      refine JE_seq ?_
      refine JC_seq ?_
      refine JC_region ?_
      refine JL_pd rfl (det_move rfl) ?_
      refine JL_pd rfl (det_assign rfl) ?_
      refine JL_nil ?_
      refine JE_seq ?_
      refine JC_ret ?_
      -- stop: out
      refine JE_out (.inl rfl) (av, cv) (results1 Tryz.results89 (res_tmp rfl)) rfl (List.Perm.refl _) (fun w h => h.1)
end Go.Proofs.YthpkgabckklojaaGreat.Bl

/- Walks of bill: what is left, as a key; slices and nil. -/
namespace Go.Proofs.YthpkgabckklojaaGreat.Bl
open Go.RowKit Go.Shelf

theorem cells1 : Tryz.prog.cellsOf 3 = 1 := by kernel_rfl
theorem info1 : ∃ i, Tryz.prog.info? 3 = some i := Option.isSome_iff_exists.1 (by kernel_rfl)
theorem eqItems_all (d : Nat) (e c : Nat) (xs ys : Array Value) (r : Nat → Bool) : ∀ (is : List Nat), (∀ i ∈ is, ∃ a b, ∀ w, (part e xs (i * c)).run Tryz.prog w = .ok a w ∧ (part e ys (i * c)).run Tryz.prog w = .ok b w ∧ (Op.equalIn d e a b).run Tryz.prog w = .ok (r i) w) →
    ∀ w, (Op.eqItems d e c xs ys is).run Tryz.prog w = .ok (is.all r) w
  | [], _, w => by simp [Op.eqItems]
  | i :: is, h, w => by
    obtain ⟨a, b, hab⟩ := h i (by simp)
    obtain ⟨h1, h2, h3⟩ := hab w
    have ih := eqItems_all d e c xs ys r is (fun j hj => h j (by simp [hj])) w
    simp only [Op.eqItems, Sem.run_bind, h1, h2, h3, Result.andThen_ok, List.all_cons]
    cases hr : r i
    · simp
    · simpa using ih
def nth3 (a : Am) (i : Nat) : Int := if i = 0 then a.g else if i = 1 then a.q else a.s
set_option maxRecDepth 10000 in
theorem eqN3 (d : Nat) (a b : Am) (w : World) : (Op.equalIn (d + 2) 189 (.agg #[I a.g, I a.q, I a.s]) (.agg #[I b.g, I b.q, I b.s])).run Tryz.prog w = .ok (decide (a = b)) w := by
  obtain ⟨i1, hi⟩ := info1
  have h := eqItems_all (d + 1) 3 1 #[I a.g, I a.q, I a.s] #[I b.g, I b.q, I b.s] (fun i => nth3 a i == nth3 b i) (List.range 3) (fun i hi => by
    have h3 := List.mem_range.1 hi
    refine ⟨I (nth3 a i), I (nth3 b i), fun w => ⟨?_, ?_, ?_⟩⟩
    · have : i = 0 ∨ i = 1 ∨ i = 2 := by omega
      rcases this with rfl | rfl | rfl <;> simp [part, Sem.run_bind, Result.andThen, go_sem, nth3]
    · have : i = 0 ∨ i = 1 ∨ i = 2 := by omega
      rcases this with rfl | rfl | rfl <;> simp [part, Sem.run_bind, Result.andThen, go_sem, nth3]
    · simp [Op.equalIn, Sem.run_bind, Result.andThen, go_sem]) w
  have e : ((List.range 3).all fun i => nth3 a i == nth3 b i) = decide (a = b) := by
    obtain ⟨a1, a2, a3⟩ := a
    obtain ⟨b1, b2, b3⟩ := b
    rw [Bool.eq_iff_iff, decide_eq_true_eq, List.all_eq_true]
    constructor
    · intro h
      have h0 : a1 = b1 := by simpa [nth3] using h 0 (by simp)
      have h1 : a2 = b2 := by simpa [nth3] using h 1 (by simp)
      have h2 : a3 = b3 := by simpa [nth3] using h 2 (by simp)
      rw [h0, h1, h2]
    · intro h i _
      rw [h]; simp
  rw [Go.run_equalIn_array w (d + 1) _ _ Tryz.underlying189 hi, cells1, h, e]
abbrev LK := Int × Am
def ekL (k : LK) : Value := .agg #[I k.1, I k.2.g, I k.2.q, I k.2.s]
theorem eqLeft (x y : LK) (w : World) : (Op.equalIn 10000 191 (ekL x) (ekL y)).run Tryz.prog w = .ok (decide (x = y)) w := by
  have ht : Tryz.prog.underlying 191 = some (.struct (Tryz.prog.fieldsOf 191)) := by simp [Program.fieldsOf]
  unfold ekL
  rw [run_equalIn_struct w 9999 191 _ _ ht (by kernel_rfl)]
  clear ht
  have h : (Op.equalIn 9999 189 (.agg #[I x.2.g, I x.2.q, I x.2.s]) (.agg #[I y.2.g, I y.2.q, I y.2.s])).run Tryz.prog w = .ok (decide (x.2 = y.2)) w := eqN3 9997 x.2 y.2 w
  simp [go_sem, part, Sem.run_bind, Result.andThen]
  rw [h]
  by_cases h1 : x.1 = y.1
  · by_cases h2 : x.2 = y.2
    · rw [if_pos h1, decide_eq_true h2, decide_eq_true (Prod.ext h1 h2)]; rfl
    · rw [if_pos h1, decide_eq_false h2, decide_eq_false (fun e => h2 (congrArg Prod.snd e))]; rfl
  · rw [if_neg h1, decide_eq_false (fun e => h1 (congrArg Prod.fst e))]
theorem chkL_run (n : Nat) (e : Bool) (a : LK) (w : World) : (Instr.checkKey e (n + 3) 191 (ekL a)).run Tryz.prog w = .ok () w := by
  unfold ekL
  simp [Instr.checkKey, go_sem, show List.range' 0 3 = [0, 1, 2] from rfl, Sem.run_bind, Result.andThen]
theorem goodL : GoodKey Tryz.prog 191 ekL := by
  refine GoodKey.of_struct Tryz.underlying191 (fun b k w => chkL_run 9997 b k w) (fun a b w => ?_) (fun k => ?_) (fun a b h => ?_)
  · exact eqLeft a b w
  · show Instr.sameBits (9999 + 1) _ _ = true
    simp [ekL, Instr.sameBits]
  · simp [ekL] at h
    obtain ⟨h1, h2, h3, h4⟩ := h
    obtain ⟨a1, a2, a3, a4⟩ := a
    obtain ⟨b1, b2, b3, b4⟩ := b
    simp_all
section
variable {P : Program} {st : Sto} {d : Option Nat} {ty : TypeId} {pos : String} {af : Array Edge} {g : Option (Nat × Bool)}
/-- Is a pointer nil? Is a slice? -/
theorem det_eqlPN {x y : Operand} {t t' E : TypeId} {p : Option Addr} (hx : opnd st x = some (.pointer p)) (hy : opnd st y = some (.pointer none)) (hu : P.underlying t = some (.pointer E)) : PDet P ⟨d, .binOp .eql t x y t', ty, pos, af, g⟩ st (.bool p.isNone) := fun N a w hs => by
  have h1 : (Op.equalIn 10000 t (.pointer p) (.pointer none)).run P w = .ok p.isNone w := by
    unfold Op.equalIn
    simp only [Sem.run_bind, run_underlying hu, Result.andThen_ok]
    cases p <;> rfl
  cases p <;> simp [execOp, hs.eval hx, hs.eval hy, eqGuard, binOp, Op.equal, Op.maxDepth, h1]
theorem det_neqPN {x y : Operand} {t t' E : TypeId} {p : Option Addr} (hx : opnd st x = some (.pointer p)) (hy : opnd st y = some (.pointer none)) (hu : P.underlying t = some (.pointer E)) : PDet P ⟨d, .binOp .neq t x y t', ty, pos, af, g⟩ st (.bool p.isSome) := fun N a w hs => by
  have h1 : (Op.equalIn 10000 t (.pointer p) (.pointer none)).run P w = .ok p.isNone w := by
    unfold Op.equalIn
    simp only [Sem.run_bind, run_underlying hu, Result.andThen_ok]
    cases p <;> rfl
  cases p <;> simp [execOp, hs.eval hx, hs.eval hy, eqGuard, binOp, Op.equal, Op.maxDepth, h1]
theorem det_eqlSN {x y : Operand} {t t' E : TypeId} {p : Option Addr} {n c : Nat} (hx : opnd st x = some (.slice p n c)) (hy : opnd st y = some (.slice none 0 0)) (hu : P.underlying t = some (.slice E)) : PDet P ⟨d, .binOp .eql t x y t', ty, pos, af, g⟩ st (.bool p.isNone) := fun N a w hs => by
  have h1 : (Op.equalIn 10000 t (.slice p n c) (.slice none 0 0)).run P w = .ok p.isNone w := by
    unfold Op.equalIn
    simp only [Sem.run_bind, run_underlying hu, Result.andThen_ok]
    cases p <;> rfl
  cases p <;> simp [execOp, hs.eval hx, hs.eval hy, eqGuard, binOp, Op.equal, Op.maxDepth, h1]
end
theorem Clone_j (a : Option Addr) (c : Nat) (xs : List Int) (hl : xs.length ≤ 100000) : Cr Tryz.prog 93 [.slice a xs.length c] (KSl a xs.length c encI xs) (fun q : Option Addr × Nat => .slice q.1 xs.length q.2) (fun q => KSl q.1 xs.length q.2 encI xs) := by
  refine Cx_of Tryz.func93 rfl Tryz.ntmps93 rfl fun w0 M0 => ?_
  refine JC_seq ?_
  refine JC_region ?_
  refine JL_pd rfl (det_assign rfl) ?_
  refine JL_nil ?_
  refine JE_seq ?_
  refine JC_seq ?_
  refine JC_seq ?_
  refine JC_region ?_
  refine JL_pd rfl (det_move rfl) ?_
  refine JL_pd rfl (det_eqlSN rfl rfl Tryz.underlying31) ?_
  refine JL_nil ?_
  refine JE_seq ?_
  -- stop: cond
  refine JC_cond rfl (fun h1 => ?_) (fun h1 => ?_)
  · obtain rfl : a = none := by cases a with | none => rfl | some p => cases h1
    refine JC_pure (p := xs.length = 0 ∧ c = 0) (by intro w h; exact h.1.2.2.1 rfl) fun hz => ?_
    obtain rfl : xs = [] := List.eq_nil_of_length_eq_zero hz.1
    refine JC_seq ?_
    refine JC_region ?_
    refine JL_pd rfl (det_assign rfl) ?_
    refine JL_nil ?_
    refine JE_seq ?_
    refine JC_ret ?_
    refine JE_seq_ret ?_
    -- stop: out
    refine JE_out (.inl rfl) (none, 0) (results1 Tryz.results93 (res_tmp rfl)) rfl (List.Perm.refl _) (fun w _ => KSl_none w)
  · refine JC_skip ?_
    refine JE_seq ?_
    refine JC_seq ?_
    refine JC_region ?_
    refine JL_step rfl rfl rfl (jo_buildOwn (z := 1) rfl (bsl_31_0) rfl (by decide)) fun b5 => ?_
    refine JL_pd rfl (det_move rfl) ?_
    refine JL_step rfl rfl rfl (jo_appendK (e := encI) el_31 rfl rfl encI_one (by omega)) fun b7 => ?_
    refine JL_pd rfl (det_assign rfl) ?_
    refine JL_nil ?_
    refine JE_seq ?_
    refine JC_ret ?_
    -- stop: out
    refine JE_slice (enc := encI) (v := b7) xs noFp rfl (by omega) ?_
    rintro av cv rfl
    refine JE_weak (R' := KAnd (KSl av xs.length cv encI xs) _) stsub_refl hsub_refl (fun w h => ⟨by have hq := Knows.know (F := KSl av (0 + xs.length) cv encI xs) w h; rwa [Nat.zero_add] at hq, h⟩) ?_
    refine JE_out (.inl rfl) (av, cv) (results1 Tryz.results93 (res_tmp rfl)) (by rw [Nat.zero_add]) (List.Perm.refl _) (fun w h => h.1)
end Go.Proofs.YthpkgabckklojaaGreat.Bl

/- Bill, plain: the best purchase. -/
namespace Go.Proofs.YthpkgabckklojaaGreat.Bl
open Go.RowKit Go.Shelf

/-- What is left behind an offer, bought some times. -/
def wos (need a : Am) : Nat → Am
  | 0 => need
  | n + 1 => wo (wos need a n) a
/-- The best of some, the first of which is taken among equals. -/
def pickB (f : Nat → Option Bt) : Nat → Option Bt
  | 0 => none
  | n + 1 => match f n with
    | none => pickB f n
    | some b => match pickB f n with
      | none => some b
      | some c => if befV b c < 0 then some b else some c
def addB (o : Of) (n : Nat) (r : Bt) : Bt := ⟨(n : Int) :: r.list, n * o.price + r.cost, n + r.many⟩
def bst (at_ : Int) : List Of → Am → Option Bt
  | [], need => if need = ⟨0, 0, 0⟩ then some ⟨[], 0, 0⟩ else none
  | o :: os, need => pickB (fun n => (bst at_ os (wos need o.am n)).map (addB o n)) ((mostV o at_).toNat + 1)
theorem pickB_mem {f : Nat → Option Bt} : ∀ {n : Nat} {b : Bt}, pickB f n = some b → ∃ i, i < n ∧ f i = some b
  | 0, b, h => by cases h
  | n + 1, b, h => by
    unfold pickB at h
    cases hf : f n with
    | none =>
      rw [hf] at h
      obtain ⟨i, hi, e⟩ := pickB_mem h
      exact ⟨i, by omega, e⟩
    | some c =>
      rw [hf] at h
      cases hp : pickB f n with
      | none => rw [hp] at h; cases h; exact ⟨n, by omega, hf⟩
      | some d =>
        rw [hp] at h
        simp only at h
        split at h
        · cases h; exact ⟨n, by omega, hf⟩
        · cases h
          obtain ⟨i, hi, e⟩ := pickB_mem hp
          exact ⟨i, by omega, e⟩
theorem most_bd {o : Of} (h : VOf o) (at_ : Int) : 0 ≤ mostV o at_ ∧ mostV o at_ ≤ 12 := by
  have := h.m0; have := h.m1
  unfold mostV
  split <;> omega
structure BtOk (m : Nat) (b : Bt) : Prop where
  n : b.list.length = m
  c0 : 0 ≤ b.cost
  c1 : b.cost ≤ 120000 * m
  m0 : 0 ≤ b.many
  m1 : b.many ≤ 12 * m
theorem addB_ok {o : Of} (h : VOf o) {n m : Nat} (hn : n ≤ 12) {r : Bt} (hr : BtOk m r) : BtOk (m + 1) (addB o n r) := by
  have h1 : (n : Int) * o.price ≤ 12 * 10000 := Int.mul_le_mul (by omega) h.p1 h.p0 (by omega)
  have h2 : 0 ≤ (n : Int) * o.price := Int.mul_nonneg (by omega) h.p0
  have := hr.c0; have := hr.c1; have := hr.m0; have := hr.m1
  refine ⟨by unfold addB; simp only [List.length_cons]; rw [hr.n], ?_, ?_, ?_, ?_⟩ <;> unfold addB <;> simp only <;> omega
theorem bst_ok (at_ : Int) : ∀ (os : List Of) (need : Am) (b : Bt), (∀ o ∈ os, VOf o) → bst at_ os need = some b → BtOk os.length b
  | [], need, b, _, h => by
    unfold bst at h
    split at h
    · cases h; exact ⟨rfl, by simp, by simp, by simp, by simp⟩
    · cases h
  | o :: os, need, b, hV, h => by
    have ho := hV o (List.mem_cons_self ..)
    have hm := most_bd ho at_
    unfold bst at h
    obtain ⟨i, hi, e⟩ := pickB_mem h
    obtain ⟨r, hr, rfl⟩ := Option.map_eq_some_iff.1 e
    exact addB_ok ho (by omega) (bst_ok at_ os _ r (fun x hx => hV x (List.mem_cons_of_mem _ hx)) hr)
def am12 (a : Am) : Prop := 0 ≤ a.g ∧ a.g ≤ 12 ∧ 0 ≤ a.q ∧ a.q ≤ 12 ∧ 0 ≤ a.s ∧ a.s ≤ 12
theorem am12_of {a : Am} (h : VAm a) : am12 a := ⟨h.g0, h.g1, h.q0, h.q1, h.s0, h.s1⟩
theorem wo12 {n a : Am} (h : am12 n) (ha : VAm a) : am12 (wo n a) := by
  have := ha.g0; have := ha.q0; have := ha.s0
  unfold am12 wo at *
  simp only
  omega
theorem wos12 {n a : Am} (h : am12 n) (ha : VAm a) : ∀ i, am12 (wos n a i)
  | 0 => h
  | i + 1 => wo12 (wos12 h ha i) ha
/-- A purchase, as it is kept: where it lies, and its list. -/
abbrev PV := Option (Nat × Option Addr × Nat)
abbrev evQ (p : PV) : Value := .pointer (p.map fun q => ⟨q.1, 0, none⟩)
def KPtr (v : Option Bt) (p : PV) : World → Prop := fun w => match v, p with
  | none, none => True
  | some b, some q => KBox q.1 [.slice q.2.1 b.list.length q.2.2, I b.cost, I b.many] w ∧ KSl q.2.1 b.list.length q.2.2 encI b.list w
  | _, _ => False
def KKn (at_ : Int) (l : List Of) (kn : LK → Option PV) : World → Prop := fun w => ∀ x p, kn x = some p → KPtr (bst at_ (l.drop x.1.toNat) x.2) p w
theorem KPtr_cases {v : Option Bt} {p : PV} {w : World} (h : KPtr v p w) : (v = none ∧ p = none) ∨ ∃ b q, v = some b ∧ p = some q := by
  cases v <;> cases p
  · exact .inl ⟨rfl, rfl⟩
  · exact h.elim
  · exact h.elim
  · exact .inr ⟨_, _, rfl, rfl⟩
theorem KKn_upd {at_ : Int} {l : List Of} {kn : LK → Option PV} {w : World} (h : KKn at_ l kn w) {x : LK} {p : PV} (hp : KPtr (bst at_ (l.drop x.1.toNat) x.2) p w) : KKn at_ l (upd kn x p) w := fun y q hq => by
  unfold upd at hq
  split at hq
  · rename_i e; subst e; cases hq; exact hp
  · exact h y q hq
end Go.Proofs.YthpkgabckklojaaGreat.Bl

/- Walks of bill: Best. -/
namespace Go.Proofs.YthpkgabckklojaaGreat.Bl
open Go.RowKit Go.Shelf

theorem pickB_none {f : Nat → Option Bt} {n : Nat} (h : f n = none) : pickB f (n + 1) = pickB f n := by
  show (match f n with | none => pickB f n | some b => match pickB f n with | none => some b | some c => if befV b c < 0 then some b else some c) = _
  rw [h]
theorem pickB_first {f : Nat → Option Bt} {n : Nat} {b : Bt} (h : f n = some b) (h2 : pickB f n = none) : pickB f (n + 1) = some b := by
  show (match f n with | none => pickB f n | some b => match pickB f n with | none => some b | some c => if befV b c < 0 then some b else some c) = _
  rw [h, h2]
theorem pickB_lt {f : Nat → Option Bt} {n : Nat} {b c : Bt} (h : f n = some b) (h2 : pickB f n = some c) (h3 : befV b c < 0) : pickB f (n + 1) = some b := by
  show (match f n with | none => pickB f n | some b => match pickB f n with | none => some b | some c => if befV b c < 0 then some b else some c) = _
  rw [h, h2]
  exact if_pos h3
theorem pickB_ge {f : Nat → Option Bt} {n : Nat} {b c : Bt} (h : f n = some b) (h2 : pickB f n = some c) (h3 : ¬ befV b c < 0) : pickB f (n + 1) = some c := by
  show (match f n with | none => pickB f n | some b => match pickB f n with | none => some b | some c => if befV b c < 0 then some b else some c) = _
  rw [h, h2]
  exact if_neg h3
theorem Concat2_j (n : Int) (b1 b2 : Nat) (ra : Option Addr) (rc : Nat) (rs : List Int) (hl : rs.length ≤ 100) : Cr Tryz.prog 89 [.slice (some ⟨b2, 0, none⟩) 2 2] (KAnd (KSl (some ⟨b2, 0, none⟩) 2 2 encSL [⟨some ⟨b1, 0, none⟩, 1, [n]⟩, ⟨ra, rc, rs⟩]) (KAnd (KSl (some ⟨b1, 0, none⟩) 1 1 encI [n]) (KSl ra rs.length rc encI rs))) (fun q : Option Addr × Nat => .slice q.1 (n :: rs).length q.2) (fun q => KSl q.1 (n :: rs).length q.2 encI (n :: rs)) := by
  have hc : catL [⟨some ⟨b1, 0, none⟩, 1, [n]⟩, ⟨ra, rc, rs⟩] = n :: rs := by simp [catL]
  have h := Concat_j [⟨some ⟨b1, 0, none⟩, 1, [n]⟩, ⟨ra, rc, rs⟩] (some ⟨b2, 0, none⟩) 2 (by rw [hc]; simp) (by rw [hc]; simp; omega)
  rw [hc] at h
  refine h.mono (fun w hw => ⟨hw.1, fun s hs => ?_⟩) fun _ _ h => h
  rcases List.mem_cons.1 hs with rfl | hs
  · exact hw.2.1
  · rw [List.mem_singleton.1 hs]; exact hw.2.2
theorem egtN : Tryz.prog.eqGuardType Tryz.prog.depth 189 = false := by kernel_rfl
abbrev KB (at_ : Int) (la : Option Addr) (lc : Nat) (l : List Of) (kb mm lb hb fb : Nat) : World → Prop := KAnd (KBox kb [.map (some mm)]) (KAnd (KBox lb [.slice la l.length lc]) (KAnd (KBox hb [I at_]) (KAnd (KBox fb [.func (.func 87) #[] #[pt lb, pt kb, pt hb, pt fb]]) (KSl la l.length lc encO l))))
set_option maxRecDepth 100000 in
set_option maxHeartbeats 2000000 in
theorem buy_j (at_ : Int) (la : Option Addr) (lc : Nat) (l : List Of) (kb mm lb hb fb : Nat) (hV : ∀ o ∈ l, VOf o) (hl : l.length ≤ 6) : ∀ (n k : Nat) (need : Am) (kn : LK → Option PV), k ≤ l.length → l.length - k = n → am12 need →
    Cx Tryz.prog 87 [.agg #[I k, I need.g, I need.q, I need.s], pt lb, pt kb, pt hb, pt fb] [mp mm ekL evQ kn] (KAnd (KKn at_ l kn) (KB at_ la lc l kb mm lb hb fb))
      (fun q : PV × (LK → Option PV) => evQ q.1) (fun q => [mp mm ekL evQ q.2]) (fun q => KAnd (KPtr (bst at_ (l.drop k) need) q.1) (KKn at_ l q.2)) := by
  intro n
  induction n with
  | zero =>
    intro k need kn hk hkn h12
    have hd : l.drop k = [] := List.drop_of_length_le (by omega)
    rw [hd]
    refine Cx_of Tryz.func87 rfl Tryz.ntmps87 rfl fun w0 M0 => ?_
    refine JC_seq ?_
    refine JC_region ?_
    refine JL_step rfl rfl rfl (jo_box rfl rfl) fun b5 => ?_
    refine JL_pd rfl (det_assign rfl) ?_
    refine JL_nil ?_
    refine JE_seq ?_
    refine JC_seq ?_
    refine JC_seq ?_
    refine JC_region ?_
    refine JL_pd rfl (det_fieldAddr rfl fo_191_0) ?_
    refine JL_dt rfl (det_loadK rfl Tryz.isAgg3 rfl) ?_
    refine JL_dt rfl (det_loadK rfl Tryz.isAgg99 rfl) ?_
    refine JL_pd rfl (det_len rfl Tryz.runUnderlying99) ?_
    refine JL_pd rfl (det_eql rfl rfl) ?_
    refine JL_nil ?_
    refine JE_seq ?_
    -- stop: cond
    refine JC_if rfl (fun h1 => ?_) (fun h1 => ?_)
    · refine JC_seq ?_
      refine JC_seq ?_
      refine JC_region ?_
      refine JL_pd rfl (det_fieldAddr rfl fo_191_1) ?_
      refine JL_dt rfl (det_loadKA rfl Tryz.isAgg189 Tryz.sizeOf189 rfl rfl) ?_
      refine JL_pd rfl (det_build rfl (bld_189)) ?_
      refine JL_pd rfl (det_eqlA rfl rfl egtN (fun w => eqN3 9998 need ⟨0, 0, 0⟩ w)) ?_
      refine JL_nil ?_
      refine JE_seq ?_
      -- stop: cond
      refine JC_cond rfl (fun h2 => ?_) (fun h2 => ?_)
      · have hn : need = ⟨0, 0, 0⟩ := of_decide_eq_true h2
        refine JC_seq ?_
        refine JC_region ?_
        refine JL_pd rfl (det_build rfl (bld_194)) ?_
        refine JL_step rfl rfl rfl (jo_box rfl rfl) fun b26 => ?_
        refine JL_pd rfl (det_assign rfl) ?_
        refine JL_nil ?_
        refine JE_seq ?_
        refine JC_ret ?_
        refine JE_seq_ret ?_
        refine JE_seq_ret ?_
        -- stop: out
        refine JE_keepB b26 mm ekL evQ fpM ?_
        refine JE_out (.inl rfl) (some (b26, none, 0), kn) (results1 Tryz.results87 (res_tmp rfl)) rfl pick_perm (fun w h => ⟨by rw [bst, if_pos hn]; exact ⟨h.1, KSl_none w⟩, h.2.1⟩)
      · have hn : ¬ need = ⟨0, 0, 0⟩ := of_decide_eq_false h2
        refine JC_skip ?_
        refine JE_seq ?_
        refine JC_seq ?_
        refine JC_region ?_
        refine JL_pd rfl (det_assign rfl) ?_
        refine JL_nil ?_
        refine JE_seq ?_
        refine JC_ret ?_
        refine JE_seq_ret ?_
        -- stop: out
        refine JE_out (.inl rfl) (none, kn) (results1 Tryz.results87 (res_tmp rfl)) rfl pick_perm (fun w h => ⟨by rw [bst, if_neg hn]; trivial, h.1⟩)
    · exact absurd h1 (by omega)
  | succ n IH =>
    intro k need kn hk hkn h12
    have hk2 : k < l.length := by omega
    have hd := List.drop_eq_getElem_cons hk2
    have hvk := hV _ (List.getElem_mem hk2)
    cases hkm : kn ((k : Int), need) with
    | some p =>
      refine Cx_of Tryz.func87 rfl Tryz.ntmps87 rfl fun w0 M0 => ?_
      refine JC_seq ?_
      refine JC_region ?_
      refine JL_step rfl rfl rfl (jo_box rfl rfl) fun b5 => ?_
      refine JL_pd rfl (det_assign rfl) ?_
      refine JL_nil ?_
      refine JE_seq ?_
      refine JC_seq ?_
      refine JC_seq ?_
      refine JC_region ?_
      refine JL_pd rfl (det_fieldAddr rfl fo_191_0) ?_
      refine JL_dt rfl (det_loadK rfl Tryz.isAgg3 rfl) ?_
      refine JL_dt rfl (det_loadK rfl Tryz.isAgg99 rfl) ?_
      refine JL_pd rfl (det_len rfl Tryz.runUnderlying99) ?_
      refine JL_pd rfl (det_eql rfl rfl) ?_
      refine JL_nil ?_
      refine JE_seq ?_
      -- stop: cond
      refine JC_if rfl (fun h1 => ?_) (fun h1 => ?_)
      · exact absurd h1 (by omega)
      refine JC_skip ?_
      refine JE_seq ?_
      refine JC_seq ?_
      refine JC_seq ?_
      refine JC_region ?_
      refine JL_dt rfl (det_loadK rfl Tryz.isAgg186 rfl) ?_
      refine JL_dt rfl (det_loadKA rfl Tryz.isAgg191 Tryz.sizeOf191 rfl rfl) ?_
      refine JL_dt rfl (det_lookup2S (ek := ekL) (ev := evQ) (key := ((k : Int), need)) hkm rfl rfl goodL Tryz.underlying186 Tryz.zeroValue192) ?_
      refine JL_pd rfl (det_move rfl) ?_
      refine JL_pd rfl (det_extract rfl rfl) ?_
      refine JL_pd rfl (det_extract rfl rfl) ?_
      refine JL_pd rfl (det_assign rfl) ?_
      refine JL_pd rfl (det_assign rfl) ?_
      refine JL_nil ?_
      refine JE_seq ?_
      refine JC_seq ?_
      refine JC_region ?_
      refine JL_pd rfl (det_move rfl) ?_
      refine JL_nil ?_
      refine JE_seq ?_
      -- stop: cond
      refine JC_cond rfl (fun h2 => ?_) (fun h2 => ?_)
      · refine JC_seq ?_
        refine JC_region ?_
        refine JL_pd rfl (det_move rfl) ?_
        refine JL_pd rfl (det_assign rfl) ?_
        refine JL_nil ?_
        refine JE_seq ?_
        refine JC_ret ?_
        refine JE_seq_ret ?_
        -- stop: out
        refine JE_out (.inl rfl) (p, kn) (results1 Tryz.results87 (res_tmp rfl)) rfl pick_perm (fun w h => ⟨h.1 _ _ hkm, h.1⟩)
      · cases h2
    | none =>
      refine Cx_of Tryz.func87 rfl Tryz.ntmps87 rfl fun w0 M0 => ?_
      refine JC_seq ?_
      refine JC_region ?_
      refine JL_step rfl rfl rfl (jo_box rfl rfl) fun b5 => ?_
      refine JL_pd rfl (det_assign rfl) ?_
      refine JL_nil ?_
      refine JE_seq ?_
      refine JC_seq ?_
      refine JC_seq ?_
      refine JC_region ?_
      refine JL_pd rfl (det_fieldAddr rfl fo_191_0) ?_
      refine JL_dt rfl (det_loadK rfl Tryz.isAgg3 rfl) ?_
      refine JL_dt rfl (det_loadK rfl Tryz.isAgg99 rfl) ?_
      refine JL_pd rfl (det_len rfl Tryz.runUnderlying99) ?_
      refine JL_pd rfl (det_eql rfl rfl) ?_
      refine JL_nil ?_
      refine JE_seq ?_
      -- stop: cond
      refine JC_if rfl (fun h1 => ?_) (fun h1 => ?_)
      · exact absurd h1 (by omega)
      refine JC_skip ?_
      refine JE_seq ?_
      refine JC_seq ?_
      refine JC_seq ?_
      refine JC_region ?_
      refine JL_dt rfl (det_loadK rfl Tryz.isAgg186 rfl) ?_
      refine JL_dt rfl (det_loadKA rfl Tryz.isAgg191 Tryz.sizeOf191 rfl rfl) ?_
      refine JL_dt rfl (det_lookup2N (ek := ekL) (ev := evQ) (key := ((k : Int), need)) hkm rfl rfl goodL Tryz.underlying186 Tryz.zeroValue192) ?_
      refine JL_pd rfl (det_move rfl) ?_
      refine JL_pd rfl (det_extract rfl rfl) ?_
      refine JL_pd rfl (det_extract rfl rfl) ?_
      refine JL_pd rfl (det_assign rfl) ?_
      refine JL_pd rfl (det_assign rfl) ?_
      refine JL_nil ?_
      refine JE_seq ?_
      refine JC_seq ?_
      refine JC_region ?_
      refine JL_pd rfl (det_move rfl) ?_
      refine JL_nil ?_
      refine JE_seq ?_
      -- stop: cond
      refine JC_cond rfl (fun h2 => ?_) (fun h2 => ?_)
      · cases h2
      refine JC_skip ?_
      refine JE_seq ?_
      refine JC_seq ?_
      refine JC_region ?_
      refine JL_dt rfl (det_loadK rfl Tryz.isAgg99 rfl) ?_
      refine JL_pd rfl (det_fieldAddr rfl fo_191_0) ?_
      refine JL_dt rfl (det_loadK rfl Tryz.isAgg3 rfl) ?_
      refine JL_dt rfl (det_indexAddr rfl rfl (by first | rfl | omega) (by first | assumption | omega | decide) Tryz.runUnderlying99 Tryz.sizeOf166) ?_
      refine JL_dt rfl (det_loadEA rfl (by first | assumption | omega | decide) Tryz.isAgg166 Tryz.sizeOf166 rfl rfl rfl) ?_
      refine JL_step rfl rfl rfl (jo_alloc0 Tryz.zeroValue166 rfl) fun b9 => ?_
      refine JL_step0 rfl rfl (jo_store rfl rfl rfl (by first | (simp only [splice_norm]; done) | (simp only [splice_norm]; rfl) | rfl) Tryz.sizeOf166 rfl rfl) fun _ => ?_
      refine JL_nil ?_
      refine JE_seq ?_
      refine JC_seq ?_
      refine JC_region ?_
      refine JL_dt rfl (det_loadKA rfl Tryz.isAgg166 Tryz.sizeOf166 rfl rfl) ?_
      refine JL_pd rfl (det_makeFuncE rfl rfl) ?_
      refine JL_pd rfl (det_assign rfl) ?_
      refine JL_nil ?_
      refine JE_seq ?_
      refine JC_seq ?_
      refine JC_region ?_
      refine JL_pd rfl (det_assign rfl) ?_
      refine JL_nil ?_
      refine JE_seq ?_
      refine JC_seq ?_
      refine JC_region ?_
      refine JL_pd rfl (det_fieldAddr rfl fo_191_0) ?_
      refine JL_dt rfl (det_loadK rfl Tryz.isAgg3 rfl) ?_
      refine JL_pd rfl (det_add rfl rfl ⟨by omega, by omega⟩) ?_
      refine JL_pd rfl (det_fieldAddr rfl fo_191_1) ?_
      refine JL_dt rfl (det_loadKA rfl Tryz.isAgg189 Tryz.sizeOf189 rfl rfl) ?_
      refine JL_pd rfl (det_build rfl (bld_191_0_1 _ _ _ _)) ?_
      refine JL_step rfl rfl rfl (jo_alloc0 Tryz.zeroValue191 rfl) fun b12 => ?_
      refine JL_step0 rfl rfl (jo_store rfl rfl rfl (by first | (simp only [splice_norm]; done) | (simp only [splice_norm]; rfl) | rfl) Tryz.sizeOf191 rfl rfl) fun _ => ?_
      refine JL_nil ?_
      refine JE_seq ?_
      refine JC_seq ?_
      refine JC_seq ?_
      refine JC_region ?_
      refine JL_pd rfl (det_move rfl) ?_
      refine JL_dt rfl (det_loadK rfl Tryz.isAgg3 rfl) ?_
      -- stop: op  2 t50 := (call (Call (value t48) (t49) (3)))   <0 1>   136
      have hmb := most_bd hvk at_
      obtain ⟨M, hM⟩ : ∃ M : Nat, mostV l[k] at_ = (M : Int) := ⟨(mostV l[k] at_).toNat, by omega⟩
      have hmj := most_j l[k] at_
      rw [hM] at hmj
      refine JL_step rfl rfl rfl (jo_callv rfl rfl Tryz.call88 rfl (hmj)) fun _ => ?_
      refine JL_pd rfl (det_add rfl rfl ⟨by omega, by omega⟩) ?_
      refine JL_pd rfl (det_move rfl) ?_
      refine JL_nil ?_
      refine JE_seq ?_
      refine JC_block ?_
      -- stop: loop
      generalize hf : (fun n => (bst at_ (l.drop (k + 1)) (wos need l[k].am n)).map (addB l[k] n)) = f
      have hfj : ∀ j, f j = (bst at_ (l.drop (k + 1)) (wos need l[k].am j)).map (addB l[k] j) := fun j => by rw [← hf]
      have hres : bst at_ (l.drop k) need = pickB f (M + 1) := by rw [hd, bst, hM, Int.toNat_natCast, hf]
      have hV2 : ∀ o ∈ l.drop (k + 1), VOf o := fun o ho => hV o (List.mem_of_mem_drop ho)
      have hdl : (l.drop (k + 1)).length ≤ 5 := by rw [List.length_drop]; omega
      refine JC_keepB b9 mm ekL evQ fpM ?_
      refine JC_keepB b5 mm ekL evQ fpM ?_
      refine JC_loopK (γ := Nat × PV × (LK → Option PV)) (fun q => q.1 ≤ M + 1) (fun q => [(52, I q.1), (11, evQ q.2.1)]) (fun q => [bx b12 [I ((k : Int) + 1), I (wos need l[k].am q.1).g, I (wos need l[k].am q.1).q, I (wos need l[k].am q.1).s], mp mm ekL evQ q.2.2]) (fun q => KAnd (KPtr (pickB f q.1) q.2.1) (KKn at_ l q.2.2)) (fun q => M + 1 - q.1) (0, none, kn) (Nat.zero_le _) (stsub_consI rfl rfl (stsub_cons rfl stsub_nil)) (ht_bx rfl (ht_cons ht_nil)) (fun w h => ⟨trivial, Knows.know (F := KKn at_ l kn) w h⟩) ?_
      rintro ⟨j, best, kn2⟩ hj K hK
      dsimp only [List.cons_append, List.nil_append] at hj ⊢
      have hw12 := wos12 h12 hvk.am j
      generalize hwj : wos need l[k].am j = wj at hw12
      have hwn : wos need l[k].am (j + 1) = wo wj l[k].am := by rw [← hwj]; rfl
      have hfj := hfj j
      rw [hwj] at hfj
      refine JC_seq ?_
      refine JC_region ?_
      refine JL_pd rfl (det_lss rfl rfl) ?_
      refine JL_nil ?_
      refine JE_seq ?_
      refine JC_seq ?_
      -- stop: cond
      refine JC_if rfl (fun h3 => ?_) (fun h3 => ?_)
      · have hj2 : j ≤ M := by omega
        refine JC_skip ?_
        refine JE_seq ?_
        refine JC_seq ?_
        refine JC_block ?_
        refine JC_seq ?_
        refine JC_region ?_
        refine JL_pd rfl (det_move rfl) ?_
        refine JL_pd rfl (det_assign rfl) ?_
        refine JL_nil ?_
        refine JE_seq ?_
        refine JC_seq ?_
        refine JC_seq ?_
        refine JC_region ?_
        refine JL_dt rfl (det_loadK rfl Tryz.isAgg187 rfl) ?_
        refine JL_dt rfl (det_loadKA rfl Tryz.isAgg191 Tryz.sizeOf191 rfl rfl) ?_
        -- stop: op  2 t57 := (call (Call (value t55) (t56) (191)))   <0 1>   137
        refine JL_step rfl rfl rfl (jo_callx rfl rfl Tryz.call87 rfl (IH (k + 1) wj kn2 (by omega) (by omega) hw12) (pick_perm)) fun q => ?_
        refine JL_pd rfl (det_assign rfl) ?_
        refine JL_nil ?_
        refine JE_seq ?_
        refine JC_seq ?_
        refine JC_region ?_
        refine JL_pd rfl (det_move rfl) ?_
        refine JL_pd rfl (det_neqPN rfl rfl Tryz.underlying192) ?_
        refine JL_nil ?_
        refine JE_seq ?_
        -- stop: cond
        obtain ⟨qp, kn3⟩ := q
        dsimp only
        have hWo := without_j wj l[k].am (by unfold am12 at hw12; omega) hvk.am
        refine JC_pure (p := (bst at_ (l.drop (k + 1)) wj = none ∧ qp = none) ∨ ∃ b r, bst at_ (l.drop (k + 1)) wj = some b ∧ qp = some r) (fun w h => KPtr_cases (Knows.know (F := KPtr (bst at_ (l.drop (k + 1)) wj) qp) w h)) ?_
        rintro (⟨hb, rfl⟩ | ⟨rb, ⟨blk, ra, rc⟩, hb, rfl⟩)
        · have hfn : f j = none := by rw [hfj, hb]; rfl
          refine JC_cond rfl (fun h4 => ?_) (fun h4 => ?_)
          · cases h4
          refine JC_skip ?_
          refine JE_seq ?_
          refine JC_region ?_
          refine JL_pd rfl (det_fieldAddr rfl fo_191_1) ?_
          refine JL_dt rfl (det_loadKA rfl Tryz.isAgg189 Tryz.sizeOf189 rfl rfl) ?_
          refine JL_pd rfl (det_fieldAddr rfl fo_166_1) ?_
          refine JL_dt rfl (det_loadKA rfl Tryz.isAgg101 Tryz.sizeOf101 rfl rfl) ?_
          refine JL_step rfl rfl rfl (jo_callv rfl rfl Tryz.call91 rfl (hWo)) fun _ => ?_
          refine JL_pd rfl (det_fieldAddr rfl fo_191_1) ?_
          refine JL_step0 rfl rfl (jo_store rfl rfl rfl (by first | (simp only [splice_norm]; done) | (simp only [splice_norm]; rfl) | rfl) Tryz.sizeOf189 rfl rfl) fun _ => ?_
          refine JL_nil ?_
          refine JE_block ?_
          refine JE_seq ?_
          refine JC_region ?_
          refine JL_pd rfl (det_add rfl rfl ⟨by omega, by omega⟩) ?_
          refine JL_pd rfl (det_move rfl) ?_
          refine JL_nil ?_
          -- stop: end
          refine JE_weak (R' := KAnd (KAnd (KPtr (pickB f (j + 1)) best) (KKn at_ l kn3)) _) stsub_refl hsub_refl (fun w h => ⟨⟨by rw [pickB_none hfn]; exact Knows.know (F := KPtr (pickB f j) best) w h, Knows.know (F := KKn at_ l kn3) w h⟩, h⟩) ?_
          refine JE_roundF hK (j + 1, best, kn3) (by simp only; omega) (by simp only; omega) (stsub_consI rfl (by simp only; omega) (stsub_cons rfl stsub_nil)) (ht_bx (by rw [hwn]) (ht_cons ht_nil))
        · have hok := bst_ok at_ _ _ _ hV2 hb
          have hnok := addB_ok hvk (n := j) (by omega) hok
          have hfn : f j = some (addB l[k] j rb) := by rw [hfj, hb]; rfl
          refine JC_know (R' := KAnd (KBox blk [.slice ra rb.list.length rc, I rb.cost, I rb.many]) (KAnd (KSl ra rb.list.length rc encI rb.list) _)) (fun w h => ⟨(Knows.know (F := KPtr (bst at_ (l.drop (k + 1)) wj) (some (blk, ra, rc))) w h : KPtr _ _ w) |> fun q => by rw [hb] at q; exact q.1, (Knows.know (F := KPtr (bst at_ (l.drop (k + 1)) wj) (some (blk, ra, rc))) w h : KPtr _ _ w) |> fun q => by rw [hb] at q; exact q.2, h⟩) ?_
          refine JC_cond rfl (fun h4 => ?_) (fun h4 => ?_)
          · refine JC_seq ?_
            -- stop: draw
            have hcj := fun b61 b66 : Nat => Concat2_j (j : Int) b61 b66 ra rc rb.list (by rw [hok.n]; omega)
            have hj12 : (j : Int) * l[k].price ≤ 12 * 10000 := Int.mul_le_mul (by omega) hvk.p1 hvk.p0 (by omega)
            have hj0 : 0 ≤ (j : Int) * l[k].price := Int.mul_nonneg (by omega) hvk.p0
            obtain ⟨o1, o2, o3, o4, o5⟩ := hok
            refine JC_cutK (γ := Nat × (Option Addr × Nat)) (fun _ => True) (fun (b84, x67) => [(15, pt b84)]) (fun (b84, x67) => [bx b84 [.slice x67.1 ((j : Int) :: rb.list).length x67.2, I (j * l[k].price + rb.cost), I (j + rb.many)]]) (fun (b84, x67) => KSl x67.1 ((j : Int) :: rb.list).length x67.2 encI ((j : Int) :: rb.list)) [mp mm ekL evQ kn3, bx b12 [I ((k : Int) + 1), I wj.g, I wj.q, I wj.s]] (fun K hK => ?_) (fun (b84, x67) _ => ?_)
            · refine JC_draw [] (by kernel_rfl) ?_
              refine JA_pd (i := 0) rfl (by kernel_rfl) rfl rfl (det_move rfl) ?_
              refine JA_pd (i := 2) rfl (by kernel_rfl) rfl rfl (det_move rfl) ?_
              refine JA_pd (i := 3) rfl (by kernel_rfl) rfl rfl (det_nilCheck rfl) ?_
              refine JA_pd (i := 4) rfl (by kernel_rfl) rfl rfl (det_fieldAddr rfl fo_194_0) ?_
              refine JA_dt (i := 5) rfl (by kernel_rfl) (by kernel_rfl) rfl rfl (det_loadK rfl Tryz.isAgg31 rfl) ?_
              refine JA_pd (i := 8) rfl (by kernel_rfl) rfl rfl (det_move rfl) ?_
              refine JA_pd (i := 9) rfl (by kernel_rfl) rfl rfl (det_fieldAddr rfl fo_166_0) ?_
              refine JA_dt (i := 10) rfl (by kernel_rfl) (by kernel_rfl) rfl rfl (det_loadK rfl Tryz.isAgg3 rfl) ?_
              refine JA_pd (i := 11) rfl (by kernel_rfl) rfl rfl (det_mul rfl rfl ⟨by omega, by omega⟩) ?_
              refine JA_pd (i := 12) rfl (by kernel_rfl) rfl rfl (det_move rfl) ?_
              refine JA_pd (i := 13) rfl (by kernel_rfl) rfl rfl (det_nilCheck rfl) ?_
              refine JA_pd (i := 14) rfl (by kernel_rfl) rfl rfl (det_fieldAddr rfl fo_194_1) ?_
              refine JA_dt (i := 15) rfl (by kernel_rfl) (by kernel_rfl) rfl rfl (det_loadK rfl Tryz.isAgg3 rfl) ?_
              refine JA_pd (i := 16) rfl (by kernel_rfl) rfl rfl (det_add rfl rfl ⟨by omega, by omega⟩) ?_
              refine JA_pd (i := 17) rfl (by kernel_rfl) rfl rfl (det_move rfl) ?_
              refine JA_pd (i := 18) rfl (by kernel_rfl) rfl rfl (det_move rfl) ?_
              refine JA_pd (i := 19) rfl (by kernel_rfl) rfl rfl (det_nilCheck rfl) ?_
              refine JA_pd (i := 20) rfl (by kernel_rfl) rfl rfl (det_fieldAddr rfl fo_194_2) ?_
              refine JA_dt (i := 21) rfl (by kernel_rfl) (by kernel_rfl) rfl rfl (det_loadK rfl Tryz.isAgg3 rfl) ?_
              refine JA_pd (i := 22) rfl (by kernel_rfl) rfl rfl (det_add rfl rfl ⟨by omega, by omega⟩) ?_
              refine JA_one (i := 1) (by kernel_rfl) rfl rfl (jo_buildSlice rfl (bsl_31_1_0 _)) (fun _ => ⟨hsub_drop 1 rfl, fun _ h => h⟩) fun b61 => ?_
              refine JA_one (i := 6) (by kernel_rfl) rfl rfl (jo_buildSlice rfl (bsl_251_2_0_1 _ _ _ _ _ _)) (fun _ => ⟨hsub_drop 1 rfl, fun _ h => h⟩) fun b66 => ?_
              refine JA_litM b61 mm 1 ekL evQ (enc := encI) [(j : Int)] fpM rfl rfl (by decide) ?_
              refine JA_litM b66 mm 2 ekL evQ (enc := encSL) [⟨some ⟨b61, 0, none⟩, 1, [(j : Int)]⟩, ⟨ra, rc, rb.list⟩] fpM rfl rfl (by decide) ?_
              refine JA_one (i := 7) (by kernel_rfl) rfl rfl (jo_call rfl rfl Tryz.call89 rfl (hcj b61 b66)) (fun _ => ⟨hsub_drop 0 rfl, fun _ h => h.2⟩) fun x67 => ?_
              refine JA_pd (i := 23) rfl (by kernel_rfl) rfl rfl (det_build rfl (bld_194_0_1_2 _ _ _ _ _)) ?_
              refine JA_one (i := 24) (by kernel_rfl) rfl rfl (jo_box rfl rfl) (fun _ => ⟨hsub_drop 1 rfl, fun _ h => h⟩) fun b84 => ?_
              refine JA_pd (i := 25) rfl (by kernel_rfl) rfl rfl (det_assign rfl) ?_
              refine JA_done (by kernel_rfl) ?_
              exact JE_cutK hK (b84, x67) trivial (stsub_cons rfl stsub_nil) (ht_bx rfl ht_nil)
            dsimp only [List.cons_append, List.nil_append]
            refine JC_seq ?_
            -- stop: draw
            refine JC_keepB b84 mm ekL evQ fpM ?_
            have hnew : ∀ w, KBox b84 [.slice x67.1 ((j : Int) :: rb.list).length x67.2, I (j * l[k].price + rb.cost), I (j + rb.many)] w → KSl x67.1 ((j : Int) :: rb.list).length x67.2 encI ((j : Int) :: rb.list) w → KPtr (some (addB l[k] j rb)) (some (b84, x67.1, x67.2)) w := fun w h1 h2 => ⟨h1, h2⟩
            refine JC_pure (p := (pickB f j = none ∧ best = none) ∨ ∃ b r, pickB f j = some b ∧ best = some r) (fun w h => KPtr_cases (Knows.know (F := KPtr (pickB f j) best) w h)) ?_
            rintro (⟨hp, rfl⟩ | ⟨cb, ⟨cblk, ca, cc⟩, hp, rfl⟩)
            · refine JC_draw [] (by kernel_rfl) ?_
              refine JA_pd (i := 0) rfl (by kernel_rfl) rfl rfl (det_move rfl) ?_
              refine JA_pd (i := 1) rfl (by kernel_rfl) rfl rfl (det_eqlPN rfl rfl Tryz.underlying192) ?_
              refine JA_pd (i := 2) rfl (by kernel_rfl) rfl rfl (det_move rfl) ?_
              -- stop: guard 2
              refine JA_is (d0 := 87) true rfl (by rfl) (fun g1 => ?_)
              refine JA_skip (i := 3) rfl (by kernel_rfl) rfl rfl rfl rfl g1 ?_
              refine JA_skip (i := 4) rfl (by kernel_rfl) rfl rfl rfl rfl g1 ?_
              refine JA_skip (i := 5) rfl (by kernel_rfl) rfl rfl rfl rfl g1 ?_
              refine JA_skip (i := 6) rfl (by kernel_rfl) rfl rfl rfl rfl g1 ?_
              refine JA_skip (i := 7) rfl (by kernel_rfl) rfl rfl rfl rfl g1 ?_
              refine JA_skip (i := 8) rfl (by kernel_rfl) rfl rfl rfl rfl g1 ?_
              refine JA_skip (i := 9) rfl (by kernel_rfl) rfl rfl rfl rfl g1 ?_
              refine JA_skip (i := 10) rfl (by kernel_rfl) rfl rfl rfl rfl g1 ?_
              refine JA_pd (i := 11) rfl (by kernel_rfl) rfl rfl (det_pick_t rfl g1 rfl) ?_
              refine JA_done (by kernel_rfl) ?_
              refine JE_seq ?_
              -- stop: cond
              refine JC_cond rfl (fun h5 => ?_) (fun h5 => ?_)
              · refine JC_region ?_
                refine JL_pd rfl (det_move rfl) ?_
                refine JL_pd rfl (det_assign rfl) ?_
                refine JL_nil ?_
                refine JE_seq ?_
                refine JC_region ?_
                refine JL_pd rfl (det_fieldAddr rfl fo_191_1) ?_
                refine JL_dt rfl (det_loadKA rfl Tryz.isAgg189 Tryz.sizeOf189 rfl rfl) ?_
                refine JL_pd rfl (det_fieldAddr rfl fo_166_1) ?_
                refine JL_dt rfl (det_loadKA rfl Tryz.isAgg101 Tryz.sizeOf101 rfl rfl) ?_
                refine JL_step rfl rfl rfl (jo_callv rfl rfl Tryz.call91 rfl (hWo)) fun _ => ?_
                refine JL_pd rfl (det_fieldAddr rfl fo_191_1) ?_
                refine JL_step0 rfl rfl (jo_store rfl rfl rfl (by first | (simp only [splice_norm]; done) | (simp only [splice_norm]; rfl) | rfl) Tryz.sizeOf189 rfl rfl) fun _ => ?_
                refine JL_nil ?_
                refine JE_block ?_
                refine JE_seq ?_
                refine JC_region ?_
                refine JL_pd rfl (det_add rfl rfl ⟨by omega, by omega⟩) ?_
                refine JL_pd rfl (det_move rfl) ?_
                refine JL_nil ?_
                -- stop: end
                refine JE_weak (R' := KAnd (KAnd (KPtr (pickB f (j + 1)) (some (b84, x67.1, x67.2))) (KKn at_ l kn3)) _) stsub_refl hsub_refl (fun w h => ⟨⟨by rw [pickB_first hfn hp]; exact hnew w (Knows.know w h) (Knows.know w h), Knows.know (F := KKn at_ l kn3) w h⟩, h⟩) ?_
                refine JE_roundF hK (j + 1, some (b84, x67.1, x67.2), kn3) (by simp only; omega) (by simp only; omega) (stsub_consI rfl (by simp only; omega) (stsub_cons rfl stsub_nil)) (ht_bx (by rw [hwn]) (ht_cons ht_nil))
              · cases h5
            · obtain ⟨i1, i2, i3⟩ := pickB_mem hp
              have hcok : BtOk (l.length - k) cb := by
                obtain ⟨r, hr, rfl⟩ := Option.map_eq_some_iff.1 (show (bst at_ (l.drop (k + 1)) (wos need l[k].am i1)).map (addB l[k] i1) = some cb by rw [← i3, ← hf])
                have := addB_ok hvk (n := i1) (by omega) (bst_ok at_ _ _ _ hV2 hr)
                rw [List.length_drop] at this
                rwa [show l.length - (k + 1) + 1 = l.length - k by omega] at this
              obtain ⟨d1, d2, d3, d4, d5⟩ := hcok
              obtain ⟨e1, e2, e3, e4, e5⟩ := hnok
              have hbf : Cv Tryz.prog 90 [.agg #[.slice x67.1 ((j : Int) :: rb.list).length x67.2, I (j * l[k].price + rb.cost), I (j + rb.many)], .agg #[.slice ca cb.list.length cc, I cb.cost, I cb.many]] (KAnd (KSl x67.1 ((j : Int) :: rb.list).length x67.2 encI ((j : Int) :: rb.list)) (KSl ca cb.list.length cc encI cb.list)) (I (befV (addB l[k] j rb) cb)) := before_j (addB l[k] j rb) cb x67.1 ca x67.2 cc (by omega) (by omega)
              refine JC_know (R' := KAnd (KBox cblk [.slice ca cb.list.length cc, I cb.cost, I cb.many]) (KAnd (KSl ca cb.list.length cc encI cb.list) _)) (fun w h => ⟨(Knows.know (F := KPtr (pickB f j) (some (cblk, ca, cc))) w h : KPtr _ _ w) |> fun q => by rw [hp] at q; exact q.1, (Knows.know (F := KPtr (pickB f j) (some (cblk, ca, cc))) w h : KPtr _ _ w) |> fun q => by rw [hp] at q; exact q.2, h⟩) ?_
              refine JC_draw [] (by kernel_rfl) ?_
              refine JA_pd (i := 0) rfl (by kernel_rfl) rfl rfl (det_move rfl) ?_
              refine JA_pd (i := 1) rfl (by kernel_rfl) rfl rfl (det_eqlPN rfl rfl Tryz.underlying192) ?_
              refine JA_pd (i := 2) rfl (by kernel_rfl) rfl rfl (det_move rfl) ?_
              -- stop: guard 2
              refine JA_is (d0 := 87) false rfl (by rfl) (fun g1 => ?_)
              refine JA_gpd (i := 3) rfl (by kernel_rfl) rfl rfl rfl rfl g1 (det_move rfl) ?_
              refine JA_gpd (i := 4) rfl (by kernel_rfl) rfl rfl rfl rfl g1 (det_nilCheck rfl) ?_
              refine JA_gdt (i := 5) rfl (by kernel_rfl) (by kernel_rfl) rfl rfl rfl rfl g1 (det_loadKA rfl Tryz.isAgg194 Tryz.sizeOf194 rfl rfl) ?_
              refine JA_gpd (i := 6) rfl (by kernel_rfl) rfl rfl rfl rfl g1 (det_move rfl) ?_
              refine JA_gpd (i := 7) rfl (by kernel_rfl) rfl rfl rfl rfl g1 (det_nilCheck rfl) ?_
              refine JA_gdt (i := 8) rfl (by kernel_rfl) (by kernel_rfl) rfl rfl rfl rfl g1 (det_loadKA rfl Tryz.isAgg194 Tryz.sizeOf194 rfl rfl) ?_
              refine JA_gone (i := 9) (by kernel_rfl) rfl rfl rfl g1 rfl (jo_callv rfl rfl Tryz.call90 rfl (hbf)) (fun _ => ⟨hsub_refl, fun _ h => h⟩) fun _ => ?_
              refine JA_gpd (i := 10) rfl (by kernel_rfl) rfl rfl rfl rfl g1 (det_lss rfl rfl) ?_
              refine JA_pd (i := 11) rfl (by kernel_rfl) rfl rfl (det_pick_f rfl g1 rfl) ?_
              refine JA_done (by kernel_rfl) ?_
              refine JE_seq ?_
              -- stop: cond
              refine JC_if rfl (fun h5 => ?_) (fun h5 => ?_)
              · refine JC_region ?_
                refine JL_pd rfl (det_move rfl) ?_
                refine JL_pd rfl (det_assign rfl) ?_
                refine JL_nil ?_
                refine JE_seq ?_
                refine JC_region ?_
                refine JL_pd rfl (det_fieldAddr rfl fo_191_1) ?_
                refine JL_dt rfl (det_loadKA rfl Tryz.isAgg189 Tryz.sizeOf189 rfl rfl) ?_
                refine JL_pd rfl (det_fieldAddr rfl fo_166_1) ?_
                refine JL_dt rfl (det_loadKA rfl Tryz.isAgg101 Tryz.sizeOf101 rfl rfl) ?_
                refine JL_step rfl rfl rfl (jo_callv rfl rfl Tryz.call91 rfl (hWo)) fun _ => ?_
                refine JL_pd rfl (det_fieldAddr rfl fo_191_1) ?_
                refine JL_step0 rfl rfl (jo_store rfl rfl rfl (by first | (simp only [splice_norm]; done) | (simp only [splice_norm]; rfl) | rfl) Tryz.sizeOf189 rfl rfl) fun _ => ?_
                refine JL_nil ?_
                refine JE_block ?_
                refine JE_seq ?_
                refine JC_region ?_
                refine JL_pd rfl (det_add rfl rfl ⟨by omega, by omega⟩) ?_
                refine JL_pd rfl (det_move rfl) ?_
                refine JL_nil ?_
                -- stop: end
                refine JE_weak (R' := KAnd (KAnd (KPtr (pickB f (j + 1)) (some (b84, x67.1, x67.2))) (KKn at_ l kn3)) _) stsub_refl hsub_refl (fun w h => ⟨⟨by rw [pickB_lt hfn hp h5]; exact hnew w (Knows.know w h) (Knows.know w h), Knows.know (F := KKn at_ l kn3) w h⟩, h⟩) ?_
                refine JE_roundF hK (j + 1, some (b84, x67.1, x67.2), kn3) (by simp only; omega) (by simp only; omega) (stsub_consI rfl (by simp only; omega) (stsub_cons rfl stsub_nil)) (ht_bx (by rw [hwn]) (ht_cons ht_nil))
              · refine JC_skip ?_
                refine JE_seq ?_
                refine JC_region ?_
                refine JL_pd rfl (det_fieldAddr rfl fo_191_1) ?_
                refine JL_dt rfl (det_loadKA rfl Tryz.isAgg189 Tryz.sizeOf189 rfl rfl) ?_
                refine JL_pd rfl (det_fieldAddr rfl fo_166_1) ?_
                refine JL_dt rfl (det_loadKA rfl Tryz.isAgg101 Tryz.sizeOf101 rfl rfl) ?_
                refine JL_step rfl rfl rfl (jo_callv rfl rfl Tryz.call91 rfl (hWo)) fun _ => ?_
                refine JL_pd rfl (det_fieldAddr rfl fo_191_1) ?_
                refine JL_step0 rfl rfl (jo_store rfl rfl rfl (by first | (simp only [splice_norm]; done) | (simp only [splice_norm]; rfl) | rfl) Tryz.sizeOf189 rfl rfl) fun _ => ?_
                refine JL_nil ?_
                refine JE_block ?_
                refine JE_seq ?_
                refine JC_region ?_
                refine JL_pd rfl (det_add rfl rfl ⟨by omega, by omega⟩) ?_
                refine JL_pd rfl (det_move rfl) ?_
                refine JL_nil ?_
                -- stop: end
                refine JE_weak (R' := KAnd (KAnd (KPtr (pickB f (j + 1)) (some (cblk, ca, cc))) (KKn at_ l kn3)) _) stsub_refl hsub_refl (fun w h => ⟨⟨by rw [pickB_ge hfn hp h5]; exact ⟨Knows.know w h, Knows.know w h⟩, Knows.know (F := KKn at_ l kn3) w h⟩, h⟩) ?_
                refine JE_roundF hK (j + 1, some (cblk, ca, cc), kn3) (by simp only; omega) (by simp only; omega) (stsub_consI rfl (by simp only; omega) (stsub_cons rfl stsub_nil)) (ht_bx (by rw [hwn]) (ht_cons ht_nil))
          · cases h4
      · obtain rfl : j = M + 1 := by omega
        refine JC_exit ?_
        refine JE_seq_exit ?_
        refine JE_then_exit ?_
        refine JE_block_here ?_
        refine JE_seq ?_
        refine JC_seq ?_
        refine JC_region ?_
        refine JL_dt rfl (det_loadK rfl Tryz.isAgg186 rfl) ?_
        refine JL_dt rfl (det_loadKA rfl Tryz.isAgg191 Tryz.sizeOf191 rfl rfl) ?_
        refine JL_pd rfl (det_move rfl) ?_
        refine JL_step0 rfl rfl (jo_mapUpdate (ek := ekL) (ev := evQ) ((k : Int), need) best (.inl rfl) rfl rfl rfl goodL Tryz.underlying186) fun _ => ?_
        refine JL_nil ?_
        refine JE_seq ?_
        refine JC_seq ?_
        refine JC_region ?_
        refine JL_pd rfl (det_move rfl) ?_
        refine JL_pd rfl (det_assign rfl) ?_
        refine JL_nil ?_
        refine JE_seq ?_
        refine JC_ret ?_
        -- stop: out
        refine JE_out (.inl rfl) (best, upd kn2 ((k : Int), need) best) (results1 Tryz.results87 (res_tmp rfl)) rfl pick_perm (fun w h => ⟨by rw [hres]; exact Knows.know (F := KPtr (pickB f (M + 1)) best) w h, KKn_upd (Knows.know (F := KKn at_ l kn2) w h) (by show KPtr (bst at_ (l.drop ((k : Int)).toNat) need) best w; rw [Int.toNat_natCast, hres]; exact Knows.know (F := KPtr (pickB f (M + 1)) best) w h)⟩)
end Go.Proofs.YthpkgabckklojaaGreat.Bl

/- Walks of bill: Best. -/
namespace Go.Proofs.YthpkgabckklojaaGreat.Bl
open Go.RowKit Go.Shelf

theorem Best_je (a : Option Addr) (c : Nat) (l : List Of) (need : Am) (at_ : Int) (h : askE l need at_ ≠ 0) : Cv Tryz.prog 36 [.slice a l.length c, .agg #[I need.g, I need.q, I need.s], I at_] (KSl a l.length c encO l) (.tuple #[.slice none 0 0, I 0, I (askE l need at_)]) := by
  refine Cx_of Tryz.func36 rfl Tryz.ntmps36 rfl fun w0 M0 => ?_
  refine JC_seq ?_
  refine JC_region ?_
  refine JL_step rfl rfl rfl (jo_box rfl rfl) fun b3 => ?_
  refine JL_step rfl rfl rfl (jo_box rfl rfl) fun b4 => ?_
  refine JL_step rfl rfl rfl (jo_box rfl rfl) fun b5 => ?_
  refine JL_pd rfl (det_assign rfl) ?_
  refine JL_pd rfl (det_assign rfl) ?_
  refine JL_pd rfl (det_assign rfl) ?_
  refine JL_nil ?_
  refine JE_seq ?_
  refine JC_seq ?_
  refine JC_seq ?_
  refine JC_region ?_
  refine JL_dt rfl (det_loadK rfl Tryz.isAgg99 rfl) ?_
  refine JL_dt rfl (det_loadKA rfl Tryz.isAgg101 Tryz.sizeOf101 rfl rfl) ?_
  refine JL_dt rfl (det_loadK rfl Tryz.isAgg3 rfl) ?_
  refine JL_step rfl rfl rfl (jo_callv rfl rfl Tryz.call86 rfl (asked_j a c l need at_)) fun _ => ?_
  refine JL_pd rfl (det_assign rfl) ?_
  refine JL_nil ?_
  refine JE_seq ?_
  refine JC_seq ?_
  refine JC_region ?_
  refine JL_pd rfl (det_move rfl) ?_
  refine JL_pd rfl (det_neq rfl rfl) ?_
  refine JL_nil ?_
  refine JE_seq ?_
  -- stop: cond
  refine JC_ifn rfl (fun h1 => ?_) (fun h1 => ?_)
  · refine JC_seq ?_
    refine JC_region ?_
    refine JL_pd rfl (det_move rfl) ?_
    refine JL_pd rfl (det_assign rfl) ?_
    refine JL_pd rfl (det_assign rfl) ?_
    refine JL_pd rfl (det_assign rfl) ?_
    refine JL_nil ?_
    refine JE_seq ?_
    refine JC_ret ?_
    refine JE_seq_ret ?_
    -- stop: out
    refine JE_out (.inl rfl) () (results3 Tryz.results36 (res_tmp rfl) (res_tmp rfl) (res_tmp rfl)) rfl (List.Perm.refl _) (fun _ _ => trivial)
  · exact absurd h1 h
def bestR (v : Option Bt) (q : Option Addr × Nat) : Value := match v with
  | none => .tuple #[.slice none 0 0, I 0, I 9]
  | some b => .tuple #[.slice q.1 b.list.length q.2, I b.cost, I 0]
def bestK (v : Option Bt) (q : Option Addr × Nat) : World → Prop := match v with
  | none => KTrue
  | some b => KSl q.1 b.list.length q.2 encI b.list
set_option maxRecDepth 100000 in
set_option maxHeartbeats 2000000 in
theorem Best_jo (a : Option Addr) (c : Nat) (l : List Of) (need : Am) (at_ : Int) (h : askE l need at_ = 0) : Cr Tryz.prog 36 [.slice a l.length c, .agg #[I need.g, I need.q, I need.s], I at_] (KSl a l.length c encO l) (fun q : Option Addr × Nat => bestR (bst at_ l need) q) (fun q => bestK (bst at_ l need) q) := by
  obtain ⟨ht, hn, h1, h2⟩ := ask_of h
  obtain ⟨hl, hV⟩ := tar_of ht
  have hask := asked_j a c l need at_
  rw [h] at hask
  have hbuy := fun kb mm lb hb fb : Nat => buy_j at_ a c l kb mm lb hb fb hV hl l.length 0 need (fun _ => none) (Nat.zero_le _) rfl (am12_of hn)
  refine Cx_of Tryz.func36 rfl Tryz.ntmps36 rfl fun w0 M0 => ?_
  refine JC_seq ?_
  refine JC_region ?_
  refine JL_step rfl rfl rfl (jo_box rfl rfl) fun b3 => ?_
  refine JL_step rfl rfl rfl (jo_box rfl rfl) fun b4 => ?_
  refine JL_step rfl rfl rfl (jo_box rfl rfl) fun b5 => ?_
  refine JL_pd rfl (det_assign rfl) ?_
  refine JL_pd rfl (det_assign rfl) ?_
  refine JL_pd rfl (det_assign rfl) ?_
  refine JL_nil ?_
  refine JE_seq ?_
  refine JC_seq ?_
  refine JC_seq ?_
  refine JC_region ?_
  refine JL_dt rfl (det_loadK rfl Tryz.isAgg99 rfl) ?_
  refine JL_dt rfl (det_loadKA rfl Tryz.isAgg101 Tryz.sizeOf101 rfl rfl) ?_
  refine JL_dt rfl (det_loadK rfl Tryz.isAgg3 rfl) ?_
  refine JL_step rfl rfl rfl (jo_callv rfl rfl Tryz.call86 rfl (hask)) fun _ => ?_
  refine JL_pd rfl (det_assign rfl) ?_
  refine JL_nil ?_
  refine JE_seq ?_
  refine JC_seq ?_
  refine JC_region ?_
  refine JL_pd rfl (det_move rfl) ?_
  refine JL_pd rfl (det_neq rfl rfl) ?_
  refine JL_nil ?_
  refine JE_seq ?_
  -- stop: cond
  refine JC_ifn rfl (fun h1 => ?_) (fun h1 => ?_)
  · exact absurd rfl h1
  refine JC_skip ?_
  refine JE_seq ?_
  refine JC_seq ?_
  refine JC_region ?_
  refine JL_step rfl rfl rfl (jo_makeMap ekL evQ) fun b20 => ?_
  refine JL_step rfl rfl rfl (jo_alloc0 Tryz.zeroValue186 rfl) fun b10 => ?_
  refine JL_step0 rfl rfl (jo_store rfl rfl rfl (by first | (simp only [splice_norm]; done) | (simp only [splice_norm]; rfl) | rfl) Tryz.sizeOf186 rfl rfl) fun _ => ?_
  refine JL_nil ?_
  refine JE_seq ?_
  refine JC_seq ?_
  refine JC_region ?_
  refine JL_step rfl rfl rfl (jo_alloc0 Tryz.zeroValue187 rfl) fun b11 => ?_
  refine JL_nil ?_
  refine JE_seq ?_
  refine JC_seq ?_
  refine JC_region ?_
  refine JL_pd rfl (det_makeFuncE rfl rfl) ?_
  refine JL_step0 rfl rfl (jo_store rfl rfl rfl (by first | (simp only [splice_norm]; done) | (simp only [splice_norm]; rfl) | rfl) Tryz.sizeOf187 rfl rfl) fun _ => ?_
  refine JL_nil ?_
  refine JE_seq ?_
  refine JC_seq ?_
  -- stop: draw
  refine JC_keep b3 noFp ?_
  refine JC_keep b10 noFp ?_
  refine JC_keep b5 noFp ?_
  refine JC_keep b11 noFp ?_
  refine JC_keep b4 noFp ?_
  refine JC_know (R' := KAnd (KKn at_ l (fun _ => none)) _) (fun w h => ⟨(fun x p hp => by cases hp), h⟩) ?_
  refine JC_draw0 (by kernel_rfl) ?_
  refine JA_dt (i := 0) rfl (by kernel_rfl) (by kernel_rfl) rfl rfl (det_loadK rfl Tryz.isAgg187 rfl) ?_
  refine JA_dt (i := 1) rfl (by kernel_rfl) (by kernel_rfl) rfl rfl (det_loadKA rfl Tryz.isAgg101 Tryz.sizeOf101 rfl rfl) ?_
  refine JA_oneH (i := 2) (by kernel_rfl) rfl rfl (jo_callv rfl rfl Tryz.call92 rfl (numbers_j need)) (fun _ => ⟨HIn.sub, Knows.know⟩) fun _ => ?_
  refine JA_pd (i := 3) rfl (by kernel_rfl) rfl rfl (det_build rfl (bld_191_0_1 _ _ _ _)) ?_
  -- stop: op  4 t26 := (call (Call (value t22) (t25) (191)))   <0 3 2>   148
  refine JA_oneH (i := 4) (by kernel_rfl) rfl rfl (jo_callx rfl rfl Tryz.call87 rfl (hbuy b10 b20 b3 b5 b11) (pick_perm)) (fun _ => ⟨HIn.sub, Knows.know⟩) fun q => ?_
  refine JA_pd (i := 5) rfl (by kernel_rfl) rfl rfl (det_assign rfl) ?_
  refine JA_done (by kernel_rfl) ?_
  refine JE_seq ?_
  refine JC_seq ?_
  refine JC_seq ?_
  refine JC_region ?_
  refine JL_pd rfl (det_move rfl) ?_
  refine JL_pd rfl (det_eqlPN rfl rfl Tryz.underlying192) ?_
  refine JL_nil ?_
  refine JE_seq ?_
  -- stop: cond
  obtain ⟨qp, kn3⟩ := q
  dsimp only
  refine JC_pure (p := (bst at_ l need = none ∧ qp = none) ∨ ∃ b r, bst at_ l need = some b ∧ qp = some r) (fun w h => KPtr_cases (Knows.know (F := KPtr (bst at_ (l.drop 0) need) qp) w h)) ?_
  rintro (⟨hb, rfl⟩ | ⟨rb, ⟨blk, ra, rc⟩, hb, rfl⟩)
  · rw [hb]
    refine JC_cond rfl (fun h2 => ?_) (fun h2 => ?_)
    · refine JC_seq ?_
      refine JC_region ?_
      refine JL_pd rfl (det_assign rfl) ?_
      refine JL_pd rfl (det_assign rfl) ?_
      refine JL_pd rfl (det_assign rfl) ?_
      refine JL_nil ?_
      refine JE_seq ?_
      refine JC_ret ?_
      refine JE_seq_ret ?_
      -- stop: out
      refine JE_out (.inl rfl) (none, 0) (results3 Tryz.results36 (res_tmp rfl) (res_tmp rfl) (res_tmp rfl)) rfl (List.Perm.refl _) (fun _ _ => trivial)
    · cases h2
  · have hok := bst_ok at_ _ _ _ hV hb
    refine JC_know (R' := KAnd (KBox blk [.slice ra rb.list.length rc, I rb.cost, I rb.many]) (KAnd (KSl ra rb.list.length rc encI rb.list) _)) (fun w h => ⟨(Knows.know (F := KPtr (bst at_ (l.drop 0) need) (some (blk, ra, rc))) w h : KPtr _ _ w) |> fun q => by rw [List.drop_zero, hb] at q; exact q.1, (Knows.know (F := KPtr (bst at_ (l.drop 0) need) (some (blk, ra, rc))) w h : KPtr _ _ w) |> fun q => by rw [List.drop_zero, hb] at q; exact q.2, h⟩) ?_
    rw [hb]
    refine JC_cond rfl (fun h2 => ?_) (fun h2 => ?_)
    · cases h2
    refine JC_skip ?_
    refine JE_seq ?_
    refine JC_seq ?_
    refine JC_draw [] (by kernel_rfl) ?_
    refine JA_pd (i := 0) rfl (by kernel_rfl) rfl rfl (det_move rfl) ?_
    refine JA_pd (i := 1) rfl (by kernel_rfl) rfl rfl (det_nilCheck rfl) ?_
    refine JA_pd (i := 2) rfl (by kernel_rfl) rfl rfl (det_fieldAddr rfl fo_194_0) ?_
    refine JA_dt (i := 3) rfl (by kernel_rfl) (by kernel_rfl) rfl rfl (det_loadK rfl Tryz.isAgg31 rfl) ?_
    refine JA_pd (i := 5) rfl (by kernel_rfl) rfl rfl (det_move rfl) ?_
    refine JA_pd (i := 6) rfl (by kernel_rfl) rfl rfl (det_nilCheck rfl) ?_
    refine JA_pd (i := 7) rfl (by kernel_rfl) rfl rfl (det_fieldAddr rfl fo_194_1) ?_
    refine JA_dt (i := 8) rfl (by kernel_rfl) (by kernel_rfl) rfl rfl (det_loadK rfl Tryz.isAgg3 rfl) ?_
    refine JA_one (i := 4) (by kernel_rfl) rfl rfl (jo_call rfl rfl Tryz.call93 rfl (Clone_j ra rc rb.list (by rw [hok.n]; omega))) (fun _ => ⟨hsub_drop 0 rfl, fun _ h => h.2⟩) fun x33 => ?_
    refine JA_pd (i := 9) rfl (by kernel_rfl) rfl rfl (det_assign rfl) ?_
    refine JA_pd (i := 10) rfl (by kernel_rfl) rfl rfl (det_assign rfl) ?_
    refine JA_pd (i := 11) rfl (by kernel_rfl) rfl rfl (det_assign rfl) ?_
    refine JA_done (by kernel_rfl) ?_
    refine JE_seq ?_
    refine JC_ret ?_
    -- stop: out
    refine JE_out (.inl rfl) x33 (results3 Tryz.results36 (res_tmp rfl) (res_tmp rfl) (res_tmp rfl)) rfl (List.Perm.refl _) (fun w h => h.1)
end Go.Proofs.YthpkgabckklojaaGreat.Bl

/- Bill, plain: facts on shares. -/
namespace Go.Proofs.YthpkgabckklojaaGreat.Bl
open Go.RowKit Go.Shelf

theorem sharesN_get (sum : Int) (ws : List Int) : ∀ (n i : Nat) (h : i < (sharesN sum ws n).length), (sharesN sum ws n)[i] = paidV sum ws (i + 1) - paidV sum ws i
  | 0, i, h => by simp [sharesN] at h
  | n + 1, i, h => by
    have hl := sharesN_len sum ws n
    rw [sharesN_len] at h
    rw [List.getElem_of_eq (show sharesN sum ws (n + 1) = sharesN sum ws n ++ [paidV sum ws (n + 1) - paidV sum ws n] from rfl)]
    by_cases h2 : i < n
    · rw [List.getElem_append_left (by omega)]; exact sharesN_get sum ws n i (by omega)
    · obtain rfl : i = n := by omega
      rw [List.getElem_append_right (by omega)]
      simp
theorem sharesV_len (sum : Int) (ws : List Int) : (sharesV sum ws).length = ws.length := sharesN_len ..
theorem Share_jv (sum : Int) (a : Option Addr) (c : Nat) (ws : List Int) (h : shareE sum ws = 0) : Cr Tryz.prog 39 [I sum, .slice a ws.length c] (KSl a ws.length c encI ws) (fun q : Option Addr × Nat => .tuple #[.slice q.1 (sharesV sum ws).length q.2, I 0]) (fun q => KSl q.1 (sharesV sum ws).length q.2 encI (sharesV sum ws)) :=
  Cr.conv (Share_jo sum a c ws h) (fun q => by rw [sharesV_len]) (fun q w h => by rw [sharesV_len]; exact h)
theorem sharesV_get {sum : Int} {ws : List Int} {i : Nat} (h : i < (sharesV sum ws).length) : (sharesV sum ws)[i] = paidV sum ws (i + 1) - paidV sum ws i := sharesN_get ..
theorem paid_0 (sum : Int) (ws : List Int) : paidV sum ws 0 = 0 := by unfold paidV; simp
theorem paid_spec {sum : Int} {ws : List Int} (V : VSh sum ws) (hW : ws.sum ≠ 0) (k : Nat) : ∃ r, sum * (ws.take k).sum = ws.sum * paidV sum ws k + r ∧ 0 ≤ r ∧ r < ws.sum := by
  have hb := sum_bd ws V.w
  obtain ⟨p1, p2, p3, p4⟩ := paid_bd V hW k
  refine ⟨(sum * (ws.take k).sum) % ws.sum, ?_, Int.emod_nonneg _ hW, Int.emod_lt_of_pos _ (by omega)⟩
  unfold paidV
  rw [Int.tdiv_eq_ediv_of_nonneg p3, Int.mul_ediv_add_emod]
theorem paid_all {sum : Int} {ws : List Int} (hW : ws.sum ≠ 0) : paidV sum ws ws.length = sum := by
  unfold paidV
  rw [List.take_length, Int.mul_tdiv_cancel _ hW]
theorem paid_up {sum : Int} {ws : List Int} (V : VSh sum ws) (hW : ws.sum ≠ 0) (i : Nat) (h : i < ws.length) : 0 ≤ paidV sum ws (i + 1) - paidV sum ws i ∧ paidV sum ws (i + 1) - paidV sum ws i ≤ sum ∧ -ws.sum < (paidV sum ws (i + 1) - paidV sum ws i) * ws.sum - sum * ws[i] ∧ (paidV sum ws (i + 1) - paidV sum ws i) * ws.sum - sum * ws[i] < ws.sum ∧ (ws[i] = 0 → paidV sum ws (i + 1) - paidV sum ws i = 0) := by
  have hts := take_sum h
  obtain ⟨p1, p2, p3, p4⟩ := paid_bd V hW i
  obtain ⟨q1, q2, q3, q4⟩ := paid_bd V hW (i + 1)
  obtain ⟨r, e1, e2, e3⟩ := paid_spec V hW i
  obtain ⟨r', f1, f2, f3⟩ := paid_spec V hW (i + 1)
  have hw := V.w _ (List.getElem_mem h)
  have hs0 := V.s0
  have hm : 0 ≤ sum * ws[i] := Int.mul_nonneg hs0 hw.1
  rw [hts, Int.mul_add, e1] at f1
  have hd : (paidV sum ws (i + 1) - paidV sum ws i) * ws.sum = sum * ws[i] + r - r' := by
    rw [Int.mul_comm, Int.mul_sub]; omega
  have hup : 0 ≤ paidV sum ws (i + 1) - paidV sum ws i := by
    refine Int.not_lt.1 fun hlt => ?_
    have h1 : (paidV sum ws (i + 1) - paidV sum ws i) * ws.sum ≤ (-1) * ws.sum := Int.mul_le_mul_of_nonneg_right (by omega) (by omega)
    omega
  refine ⟨hup, by omega, by omega, by omega, fun h0 => ?_⟩
  unfold paidV
  rw [hts, h0, Int.add_zero, Int.sub_self]
end Go.Proofs.YthpkgabckklojaaGreat.Bl

/- Plain: a cost shared evenly. -/
namespace Go.Proofs.YthpkgabckklojaaGreat.Bl
open Go.RowKit Go.Shelf

theorem even_bd {c n s : Int} (hn : 0 < n) (h0 : 0 ≤ c) (h1 : -n < s * n - c * 1) (h2 : s * n - c * 1 < n) : c.tdiv n ≤ s ∧ s ≤ c.tdiv n + 1 := by
  rw [Int.tdiv_eq_ediv_of_nonneg h0]
  have hr0 := Int.emod_nonneg c (show n ≠ 0 by omega)
  have hr1 := Int.emod_lt_of_pos c hn
  have he := Int.mul_ediv_add_emod c n
  generalize c / n = q at he ⊢
  generalize c % n = r at he hr0 hr1
  rw [Int.mul_one] at h1 h2
  have hc : n * q = q * n := Int.mul_comm n q
  constructor
  · have h3 : (q - 1) * n < s * n := by rw [Int.sub_mul]; omega
    have := Int.lt_of_mul_lt_mul_right h3 (by omega)
    omega
  · have h3 : s * n < (q + 2) * n := by rw [Int.add_mul]; omega
    have := Int.lt_of_mul_lt_mul_right h3 (by omega)
    omega
def onesL (n : Nat) : List Int := List.replicate n 1
theorem ones_len (n : Nat) : (onesL n).length = n := by simp [onesL]
theorem ones_sum (n : Nat) : (onesL n).sum = (n : Int) := by
  unfold onesL
  induction n with
  | zero => rfl
  | succ n ih => rw [List.replicate_succ, List.sum_cons, ih]; omega
theorem ones_snoc (n : Nat) : onesL (n + 1) = onesL n ++ [1] := by unfold onesL; rw [List.replicate_succ']
theorem ones_ok {c : Int} {n : Nat} (hc : 0 ≤ c ∧ c ≤ 1000000) (hn : 1 ≤ n ∧ n ≤ 10) : shareE c (onesL n) = 0 := by
  unfold shareE
  rw [if_neg (by rw [ones_len]; omega), if_neg, if_neg (by rw [ones_sum]; omega)]
  rw [inI_iff.2 hc, Bool.true_and, Bool.not_eq_false, List.all_eq_true]
  intro x hx
  rw [show x = 1 from List.eq_of_mem_replicate hx]
  decide
theorem even_share {c : Int} {n : Nat} (hc : 0 ≤ c ∧ c ≤ 1000000) (hn : 1 ≤ n ∧ n ≤ 10) (i : Nat) (hi : i < n) : c.tdiv n ≤ paidV c (onesL n) (i + 1) - paidV c (onesL n) i ∧ paidV c (onesL n) (i + 1) - paidV c (onesL n) i ≤ c.tdiv n + 1 := by
  obtain ⟨V, hW⟩ := share_of (ones_ok hc hn)
  have h := paid_up V hW i (by rw [ones_len]; exact hi)
  have h1 : (onesL n)[i]'(by rw [ones_len]; exact hi) = 1 := by simp [onesL]
  rw [ones_sum, h1] at h
  exact even_bd (by omega) hc.1 h.2.2.1 h.2.2.2.1
end Go.Proofs.YthpkgabckklojaaGreat.Bl

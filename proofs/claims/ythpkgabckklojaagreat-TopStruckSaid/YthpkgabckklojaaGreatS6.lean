/- Own texts, laid together: K5 K6 K7. Nothing is asked. -/
import Derived.Test.YthpkgabckklojaaGreatK4
set_option linter.unusedSimpArgs false
set_option linter.unusedVariables false
/- Rack: sets as lists, and back; the pins of a row that a ball reaches. -/
namespace Go.Proofs.YthpkgabckklojaaGreat.Rk
open Go.RowKit Go.Shelf

theorem has_j (s : BS) (i : Nat) (hi : i < 16) : Cv Tryz.prog 106 [bv s, I i] KTrue (.bool (s.getLsbD i)) := by
  have hs := s.isLt
  have hm : min (i : Int).toNat 16 = i := by rw [Int.toNat_natCast]; omega
  refine Cx_of Tryz.func106 rfl Tryz.ntmps106 rfl fun w0 M0 => ?_
  refine JC_seq ?_
  refine JC_region ?_
  refine JL_pd rfl (det_assign rfl) ?_
  refine JL_nil ?_
  refine JE_seq ?_
  refine JC_seq ?_
  refine JC_region ?_
  refine JL_pd rfl (det_move rfl) ?_
  refine JL_pd rfl (det_move rfl) ?_
  refine JL_pd rfl (det_shrR ((s.toNat / 2 ^ i : Nat) : Int) rfl rfl (by omega) (by rw [show IntKind.u16.bits = 16 from rfl, hm]; exact fdiv_pow _ _)) ?_
  refine JL_pd rfl (det_andR ((s.toNat / 2 ^ i % 2 : Nat) : Int) rfl rfl (by rw [show IntKind.u16.bits = 16 from rfl, and_one16]; exact wrap16 (by omega))) ?_
  refine JL_pd rfl (det_eql rfl rfl) ?_
  refine JL_pd rfl (det_assign rfl) ?_
  refine JL_nil ?_
  refine JE_seq ?_
  refine JC_ret ?_
  -- stop: out
  refine JE_out (.inl rfl) () (results1 Tryz.results106 (res_tmp rfl)) (by rw [hasN]; congr 1; exact decide_eq_decide.2 (by omega)) (List.Perm.refl _) (fun _ _ => trivial)
def lsP (s : BS) : List Nat := (List.range 10).filter fun i => s.getLsbD i
def encM (n : Nat) : List Value := [I n]
instance : Rec encM 1 := ⟨fun _ => rfl, by decide⟩
theorem encM_one (y : Nat) : (encM y).all (·.oneCell') = true := rfl
theorem lsP_mem {s : BS} {i : Nat} : i ∈ lsP s ↔ i < 10 ∧ s.getLsbD i = true := by simp [lsP]
theorem lsP_len (s : BS) : (lsP s).length ≤ 10 := by
  unfold lsP
  have := List.length_filter_le (fun i => s.getLsbD i) (List.range 10)
  rw [List.length_range] at this; exact this
theorem ksl_nat {a : Option Addr} {n c : Nat} {xs : List Nat} {w : World} (h : KSl a n c encM xs w) : KSl a n c encN (xs.map fun x : Nat => (x : Int)) w := by
  refine ⟨?_, by rw [List.length_map]; exact h.2⟩
  rw [List.flatMap_map]
  exact h.1
set_option maxRecDepth 100000 in
theorem list_j (s : BS) : Cr Tryz.prog 61 [bv s] KTrue (fun q : Option Addr × Nat => .slice q.1 (lsP s).length q.2) (fun q => KSl q.1 (lsP s).length q.2 encM (lsP s)) := by
  refine Cx_of Tryz.func61 rfl Tryz.ntmps61 rfl fun w0 M0 => ?_
  refine JC_seq ?_
  refine JC_region ?_
  refine JL_pd rfl (det_assign rfl) ?_
  refine JL_nil ?_
  refine JE_seq ?_
  refine JC_seq ?_
  refine JC_seq ?_
  refine JC_region ?_
  refine JL_pd rfl (det_move rfl) ?_
  refine JL_nil ?_
  refine JE_seq ?_
  refine JC_block ?_
  -- stop: loop
  refine JC_nil 3 1 ?_
  refine JC_loopF (γ := Nat × Value) (fun q => q.1 ≤ 10) (fun q => [(4, I q.1), (2, q.2)]) (fun q => [ow q.2 3 1 ((List.range q.1).filter fun i => s.getLsbD i).length (((List.range q.1).filter fun i => s.getLsbD i).flatMap encM)]) (fun q => 10 - q.1) (0, .slice none 0 0) (Nat.zero_le _) (stsub_consI rfl rfl (stsub_cons rfl stsub_nil)) (ht_ow rfl rfl ht_nil) ?_
  rintro ⟨i, v⟩ hi K hK
  dsimp only [List.cons_append, List.nil_append] at hi ⊢
  have hfl := List.length_filter_le (fun i => s.getLsbD i) (List.range i)
  rw [List.length_range] at hfl
  refine JC_seq ?_
  refine JC_region ?_
  refine JL_pd rfl (det_lss rfl rfl) ?_
  refine JL_nil ?_
  refine JE_seq ?_
  refine JC_seq ?_
  -- stop: cond
  refine JC_if rfl (fun h1 => ?_) (fun h1 => ?_)
  · have hi2 : i < 10 := by omega
    refine JC_skip ?_
    refine JE_seq ?_
    refine JC_seq ?_
    refine JC_block ?_
    refine JC_seq ?_
    refine JC_region ?_
    refine JL_pd rfl (det_move rfl) ?_
    refine JL_pd rfl (det_assign rfl) ?_
    refine JL_nil ?_
    refine JE_seq ?_
    refine JC_seq ?_
    refine JC_region ?_
    refine JL_pd rfl (det_move rfl) ?_
    refine JL_pd rfl (det_move rfl) ?_
    refine JL_step rfl rfl rfl (jo_callv rfl rfl Tryz.call106 rfl (has_j s i (by omega))) fun _ => ?_
    refine JL_nil ?_
    refine JE_seq ?_
    -- stop: cond
    refine JC_cond rfl (fun h2 => ?_) (fun h2 => ?_)
    · have e : (List.range (i + 1)).filter (fun i => s.getLsbD i) = (List.range i).filter (fun i => s.getLsbD i) ++ [i] := by rw [List.range_succ, List.filter_append]; simp [h2]
      refine JC_region ?_
      refine JL_pd rfl (det_move rfl) ?_
      refine JL_pd rfl (det_move rfl) ?_
      refine JL_step rfl rfl rfl (jo_buildSlice rfl (bsl_31_1_0 _)) fun b12 => ?_
      refine JL_step rfl rfl rfl (jo_append el_31 rfl rfl rfl rfl (by omega)) fun b13 => ?_
      refine JL_pd rfl (det_assign rfl) ?_
      refine JL_nil ?_
      refine JE_block ?_
      refine JE_seq ?_
      refine JC_region ?_
      refine JL_pd rfl (det_add rfl rfl ⟨by omega, by omega⟩) ?_
      refine JL_pd rfl (det_move rfl) ?_
      refine JL_nil ?_
      -- stop: end
      refine JE_roundF hK (i + 1, .slice (some ⟨b13.1, 0, none⟩) (((List.range i).filter fun i => s.getLsbD i).length + 1) b13.2) (by simp only; omega) (by simp only; omega) (stsub_consI rfl (by simp only; omega) (stsub_cons rfl stsub_nil)) (ht_ow (by simp only; rw [e]; simp) (by simp only; rw [e, List.flatMap_append]; rfl) ht_nil)
    · have e : (List.range (i + 1)).filter (fun i => s.getLsbD i) = (List.range i).filter (fun i => s.getLsbD i) := by rw [List.range_succ, List.filter_append]; simp [h2]
      refine JC_skip ?_
      refine JE_block ?_
      refine JE_seq ?_
      refine JC_region ?_
      refine JL_pd rfl (det_add rfl rfl ⟨by omega, by omega⟩) ?_
      refine JL_pd rfl (det_move rfl) ?_
      refine JL_nil ?_
      -- stop: end
      refine JE_roundF hK (i + 1, v) (by simp only; omega) (by simp only; omega) (stsub_consI rfl (by simp only; omega) (stsub_cons rfl stsub_nil)) (ht_ow (by simp only; rw [e]) (by simp only; rw [e]) ht_nil)
  · obtain rfl : i = 10 := by omega
    refine JC_slice (enc := encM) (v := v) (lsP s) noFp rfl rfl ?_
    rintro av cv rfl
    refine JC_exit ?_
    refine JE_seq_exit ?_
    refine JE_then_exit ?_
    refine JE_block_here ?_
    refine JE_seq ?_
    refine JC_seq ?_
    refine JC_region ?_
    refine JL_pd rfl (det_move rfl) ?_
    refine JL_pd rfl (det_assign rfl) ?_
    refine JL_nil ?_
    refine JE_seq ?_
    refine JC_ret ?_
    -- stop: out
    refine JE_out (.inl rfl) (av, cv) (results1 Tryz.results61 (res_tmp rfl)) rfl (List.Perm.refl _) (fun w h => h.1)
theorem many_j (s : BS) : Cv Tryz.prog 68 [bv s] KTrue (I (lsP s).length) := by
  refine Cr.toCv (α := Option Addr × Nat) (ret := fun _ => I (lsP s).length) (post := fun _ _ => True) ?_ fun _ => rfl
  refine Cx_of Tryz.func68 rfl Tryz.ntmps68 rfl fun w0 M0 => ?_
  refine JC_seq ?_
  refine JC_region ?_
  refine JL_pd rfl (det_assign rfl) ?_
  refine JL_nil ?_
  refine JE_seq ?_
  refine JC_seq ?_
  refine JC_region ?_
  refine JL_pd rfl (det_move rfl) ?_
  refine JL_step rfl rfl rfl (jo_call rfl rfl Tryz.call61 rfl (list_j s)) fun x4 => ?_
  refine JL_pd rfl (det_len rfl Tryz.runUnderlying31) ?_
  refine JL_pd rfl (det_assign rfl) ?_
  refine JL_nil ?_
  refine JE_seq ?_
  refine JC_ret ?_
  -- stop: out
  refine JE_out (.inl rfl) x4 (results1 Tryz.results68 (res_tmp rfl)) rfl (List.Perm.refl _) (fun _ _ => trivial)
def ofL (l : List Int) : BS := ofP fun i => decide ((i : Int) ∈ l)
theorem ofL_snoc (l : List Int) (p : Nat) (hp : p < 16) : ofL (l ++ [(p : Int)]) = ofL l ||| BitVec.twoPow 16 p := bs_ext fun i hi => by
  rw [BitVec.getLsbD_or, has_one hp]
  unfold ofL
  rw [has_ofP, has_ofP]
  simp [hi]
  congr 1
  exact decide_eq_decide.2 (by omega)
set_option maxRecDepth 100000 in
theorem of_j (a : Option Addr) (c : Nat) (l : List Int) (h : ∀ x ∈ l, 0 ≤ x ∧ x ≤ 9) : Cv Tryz.prog 116 [.slice a l.length c] (KSl a l.length c encN l) (bv (ofL l)) := by
  refine Cx_of Tryz.func116 rfl Tryz.ntmps116 rfl fun w0 M0 => ?_
  refine JC_seq ?_
  refine JC_region ?_
  refine JL_pd rfl (det_assign rfl) ?_
  refine JL_nil ?_
  refine JE_seq ?_
  refine JC_seq ?_
  refine JC_seq ?_
  refine JC_region ?_
  refine JL_pd rfl (det_move rfl) ?_
  refine JL_pd rfl (det_len rfl Tryz.runUnderlying31) ?_
  refine JL_pd rfl (det_move rfl) ?_
  refine JL_nil ?_
  refine JE_seq ?_
  refine JC_block ?_
  -- stop: loop
  refine JC_pure (p := l.length ≤ 9223372036854775807) (by intro w h; exact h.1.bd) fun hz => ?_
  refine JC_loopF (γ := Nat) (fun i => i ≤ l.length) (fun i => [(7, I i), (2, bv (ofL (l.take i)))]) (fun _ => []) (fun i => l.length - i) 0 (Nat.zero_le _) (stsub_consI rfl rfl (stsub_cons rfl stsub_nil)) ht_nil ?_
  intro i hi K hK
  dsimp only [List.cons_append, List.nil_append]
  refine JC_seq ?_
  refine JC_region ?_
  refine JL_pd rfl (det_lss rfl rfl) ?_
  refine JL_nil ?_
  refine JE_seq ?_
  refine JC_seq ?_
  -- stop: cond
  refine JC_if rfl (fun h1 => ?_) (fun h1 => ?_)
  · have hi2 : i < l.length := by omega
    have hx := h _ (List.getElem_mem hi2)
    obtain ⟨p, hp⟩ : ∃ p : Nat, l[i] = (p : Int) := ⟨l[i].toNat, by omega⟩
    have hsn : ofL (l.take (i + 1)) = ofL (l.take i) ||| BitVec.twoPow 16 p := by rw [List.take_succ_eq_append_getElem hi2, hp]; exact ofL_snoc _ p (by omega)
    refine JC_skip ?_
    refine JE_seq ?_
    refine JC_seq ?_
    refine JC_block ?_
    refine JC_seq ?_
    refine JC_region ?_
    refine JL_dt rfl (det_indexAddr rfl rfl (by first | rfl | omega) (by first | assumption | omega | decide) Tryz.runUnderlying31 Tryz.sizeOf3) ?_
    refine JL_dt rfl (det_loadE rfl (by first | assumption | omega | decide) Tryz.isAgg3 rfl rfl) ?_
    refine JL_pd rfl (det_assign rfl) ?_
    refine JL_nil ?_
    refine JE_seq ?_
    refine JC_region ?_
    refine JL_pd rfl (det_move rfl) ?_
    refine JL_pd rfl (det_move rfl) ?_
    refine JL_pd rfl (det_shlS p rfl rfl hp (by omega)) ?_
    refine JL_pd rfl (det_orS _ _ rfl rfl) ?_
    refine JL_pd rfl (det_assign rfl) ?_
    refine JL_nil ?_
    refine JE_block ?_
    refine JE_seq ?_
    refine JC_region ?_
    refine JL_pd rfl (det_add rfl rfl ⟨by omega, by omega⟩) ?_
    refine JL_pd rfl (det_move rfl) ?_
    refine JL_nil ?_
    -- stop: end
    refine JE_roundF hK (i + 1) (by omega) (by omega) (stsub_consI rfl (by omega) (stsub_cons (by rw [hsn]; rfl) stsub_nil)) ht_nil
  · obtain rfl : i = l.length := by omega
    rw [List.take_length]
    refine JC_exit ?_
    refine JE_seq_exit ?_
    refine JE_then_exit ?_
    refine JE_block_here ?_
    refine JE_seq ?_
    refine JC_seq ?_
    refine JC_region ?_
    refine JL_pd rfl (det_move rfl) ?_
    refine JL_pd rfl (det_assign rfl) ?_
    refine JL_nil ?_
    refine JE_seq ?_
    refine JC_ret ?_
    -- stop: out
    refine JE_out (.inl rfl) () (results1 Tryz.results116 (res_tmp rfl)) rfl (List.Perm.refl _) (fun _ _ => trivial)
abbrev vHt (r : Rk) (a : Option Addr) (c : Nat) (S : BS) : Value := .agg #[I r.rows, I r.mid, I r.gap, I r.rch, .slice a r.ls.length c, bv S]
abbrev cHt (r : Rk) (a : Option Addr) (c : Nat) (S : BS) : List Value := [I r.rows, I r.mid, I r.gap, I r.rch, .slice a r.ls.length c, bv S]
theorem reaches_j (r : Rk) (a : Option Addr) (c : Nat) (S : BS) (V : VR r) (p : Nat) (hp : p < 10) (n : Int) (hn : -1000 ≤ n ∧ n ≤ 1000) : Cv Tryz.prog 147 [vHt r a c S, I p, I n] KTrue (.bool (inI (bdN r p - n) (-r.rch) r.rch)) := by
  have hb := bd_bd V hp
  have h0 := V.h0
  have h1 := V.h1
  have m0 := V.m0
  have m1 := V.m1
  have hbn : -50 ≤ bdN r p ∧ bdN r p ≤ 110 := by unfold bdN; omega
  refine Cx_of Tryz.func147 rfl Tryz.ntmps147 rfl fun w0 M0 => ?_
  refine JC_seq ?_
  refine JC_region ?_
  refine JL_step rfl rfl rfl (jo_box rfl rfl) fun b3 => ?_
  refine JL_pd rfl (det_assign rfl) ?_
  refine JL_nil ?_
  refine JE_seq ?_
  refine JC_seq ?_
  refine JC_draw [] (by kernel_rfl) ?_
  refine JA_pd (i := 0) rfl (by kernel_rfl) rfl rfl (det_fieldAddr rfl fo_136_0) ?_
  refine JA_dt (i := 1) rfl (by kernel_rfl) (by kernel_rfl) rfl rfl (det_loadKA rfl Tryz.isAgg65 Tryz.sizeOf65 rfl rfl) ?_
  refine JA_pd (i := 2) rfl (by kernel_rfl) rfl rfl (det_move rfl) ?_
  refine JA_pd (i := 4) rfl (by kernel_rfl) rfl rfl (det_move rfl) ?_
  refine JA_pd (i := 6) rfl (by kernel_rfl) rfl rfl (det_fieldAddr rfl fo_136_0) ?_
  refine JA_pd (i := 7) rfl (by kernel_rfl) rfl rfl (det_fieldAddr rfl fo_65_3) ?_
  refine JA_dt (i := 8) rfl (by kernel_rfl) (by kernel_rfl) rfl rfl (det_loadK rfl Tryz.isAgg3 rfl) ?_
  refine JA_pd (i := 9) rfl (by kernel_rfl) rfl rfl (det_neg rfl ⟨by omega, by omega⟩) ?_
  refine JA_pd (i := 10) rfl (by kernel_rfl) rfl rfl (det_fieldAddr rfl fo_136_0) ?_
  refine JA_pd (i := 11) rfl (by kernel_rfl) rfl rfl (det_fieldAddr rfl fo_65_3) ?_
  refine JA_dt (i := 12) rfl (by kernel_rfl) (by kernel_rfl) rfl rfl (det_loadK rfl Tryz.isAgg3 rfl) ?_
  refine JA_one (i := 3) (by kernel_rfl) rfl rfl (jo_callv rfl rfl Tryz.call203 rfl (board_j r a c V p hp)) (fun _ => ⟨hsub_refl, fun _ h => h⟩) fun _ => ?_
  refine JA_pd (i := 5) rfl (by kernel_rfl) rfl rfl (det_sub rfl rfl ⟨by omega, by omega⟩) ?_
  refine JA_one (i := 13) (by kernel_rfl) rfl rfl (jo_callv rfl rfl Tryz.call58 rfl (kwithin_j _ _ _)) (fun _ => ⟨hsub_refl, fun _ h => h⟩) fun _ => ?_
  refine JA_pd (i := 14) rfl (by kernel_rfl) rfl rfl (det_assign rfl) ?_
  refine JA_done (by kernel_rfl) ?_
  refine JE_seq ?_
  refine JC_ret ?_
  -- stop: out
  refine JE_out (.inl rfl) () (results1 Tryz.results147 (res_tmp rfl)) rfl (List.Perm.refl _) (fun _ _ => trivial)
def tcC (r : Rk) (row n : Int) (i : Nat) : Bool := decide ((whR i : Int) = row) && inI (bdN r i - n) (-r.rch) r.rch
def tch (r : Rk) (S : BS) (row n : Int) : BS := ofP fun i => decide (i ∈ lsP S) && tcC r row n i
def tchT (r : Rk) (S : BS) (row n : Int) (k : Nat) : BS := ofP fun i => decide (i ∈ (lsP S).take k) && tcC r row n i
theorem tch_has {r : Rk} {S : BS} {row n : Int} {i : Nat} : (tch r S row n).getLsbD i = true ↔ i < 10 ∧ S.getLsbD i = true ∧ tcC r row n i = true := by
  unfold tch
  rw [has_ofP]
  simp only [Bool.and_eq_true, decide_eq_true_eq, lsP_mem]
  constructor
  · rintro ⟨_, ⟨h2, h3⟩, h4⟩; exact ⟨h2, h3, h4⟩
  · rintro ⟨h2, h3, h4⟩; exact ⟨by omega, ⟨h2, h3⟩, h4⟩
theorem tchT_step {r : Rk} {S : BS} {row n : Int} {k : Nat} (hk : k < (lsP S).length) : tchT r S row n (k + 1) = if tcC r row n (lsP S)[k] = true then tchT r S row n k ||| BitVec.twoPow 16 (lsP S)[k] else tchT r S row n k := by
  have hl := (lsP_mem.1 (List.getElem_mem hk)).1
  refine bs_ext fun i hi => ?_
  have e : i ∈ (lsP S).take (k + 1) ↔ i ∈ (lsP S).take k ∨ i = (lsP S)[k] := by rw [List.take_succ_eq_append_getElem hk, List.mem_append, List.mem_singleton]
  unfold tchT
  split
  · rename_i h
    rw [BitVec.getLsbD_or, has_one (by omega), has_ofP, has_ofP]
    rw [Bool.eq_iff_iff]
    simp only [Bool.and_eq_true, Bool.or_eq_true, decide_eq_true_eq, e]
    constructor
    · rintro ⟨h1, h2 | h2, h3⟩
      · exact .inl ⟨h1, h2, h3⟩
      · exact .inr h2
    · rintro (⟨h1, h2, h3⟩ | h2)
      · exact ⟨h1, .inl h2, h3⟩
      · exact ⟨hi, .inr h2, by rw [h2]; exact h⟩
  · rename_i h
    rw [has_ofP, has_ofP, Bool.eq_iff_iff]
    simp only [Bool.and_eq_true, decide_eq_true_eq, e]
    constructor
    · rintro ⟨h1, h2 | h2, h3⟩
      · exact ⟨h1, h2, h3⟩
      · exact absurd (h2 ▸ h3) h
    · rintro ⟨h1, h2, h3⟩
      exact ⟨h1, .inl h2, h3⟩
set_option maxRecDepth 100000 in
set_option maxHeartbeats 1000000 in
theorem touched_j (r : Rk) (a : Option Addr) (c : Nat) (S : BS) (V : VR r) (row n : Int) (hn : -1000 ≤ n ∧ n ≤ 1000) : Cv Tryz.prog 105 [vHt r a c S, I row, I n] KTrue (bv (tch r S row n)) := by
  have hll := lsP_len S
  refine Cr.toCv (α := Unit) (ret := fun _ => bv (tch r S row n)) (post := fun _ _ => True) ?_ fun _ => rfl
  refine Cx_of Tryz.func105 rfl Tryz.ntmps105 rfl fun w0 M0 => ?_
  refine JC_seq ?_
  refine JC_region ?_
  refine JL_step rfl rfl rfl (jo_box rfl rfl) fun b3 => ?_
  refine JL_pd rfl (det_assign rfl) ?_
  refine JL_nil ?_
  refine JE_seq ?_
  refine JC_seq ?_
  refine JC_region ?_
  refine JL_dt rfl (det_loadKA rfl Tryz.isAgg136 Tryz.sizeOf136 rfl rfl) ?_
  refine JL_pd rfl (det_makeFuncE rfl rfl) ?_
  refine JL_pd rfl (det_assign rfl) ?_
  refine JL_nil ?_
  refine JE_seq ?_
  refine JC_seq ?_
  refine JC_seq ?_
  refine JC_region ?_
  refine JL_pd rfl (det_fieldAddr rfl fo_136_1) ?_
  refine JL_dt rfl (det_loadK rfl Tryz.isAgg134 rfl) ?_
  refine JL_step rfl rfl rfl (jo_call rfl rfl Tryz.call61 rfl (list_j S)) fun x14 => ?_
  refine JL_pd rfl (det_len rfl Tryz.runUnderlying31) ?_
  refine JL_pd rfl (det_move rfl) ?_
  refine JL_nil ?_
  refine JE_seq ?_
  refine JC_block ?_
  -- stop: loop
  refine JC_loopF (γ := Nat) (fun i => i ≤ (lsP S).length) (fun i => [(16, I i), (6, bv (tchT r S row n i))]) (fun _ => []) (fun i => (lsP S).length - i) 0 (Nat.zero_le _) (stsub_consI rfl rfl (stsub_cons rfl stsub_nil)) ht_nil ?_
  intro i hi K hK
  dsimp only [List.cons_append, List.nil_append]
  refine JC_seq ?_
  refine JC_region ?_
  refine JL_pd rfl (det_lss rfl rfl) ?_
  refine JL_nil ?_
  refine JE_seq ?_
  refine JC_seq ?_
  -- stop: cond
  refine JC_if rfl (fun h1 => ?_) (fun h1 => ?_)
  · have hi2 : i < (lsP S).length := by omega
    have hp := (lsP_mem.1 (List.getElem_mem hi2)).1
    have hst := tchT_step (r := r) (row := row) (n := n) hi2
    refine JC_skip ?_
    refine JE_seq ?_
    refine JC_seq ?_
    refine JC_block ?_
    refine JC_seq ?_
    refine JC_region ?_
    refine JL_dt rfl (det_indexAddr rfl rfl (by first | rfl | omega) (by first | assumption | omega | decide) Tryz.runUnderlying31 Tryz.sizeOf3) ?_
    refine JL_dt rfl (det_loadE rfl (by first | assumption | omega | decide) Tryz.isAgg3 rfl rfl) ?_
    refine JL_pd rfl (det_assign rfl) ?_
    refine JL_nil ?_
    refine JE_seq ?_
    refine JC_seq ?_
    refine JC_region ?_
    refine JL_pd rfl (det_move rfl) ?_
    refine JL_step rfl rfl rfl (jo_callv rfl rfl Tryz.call148 rfl (where_j (lsP S)[i] hp)) fun _ => ?_
    refine JL_pd rfl (det_field rfl (fld_262_0 _ _)) ?_
    refine JL_pd rfl (det_move rfl) ?_
    refine JL_pd rfl (det_eql rfl rfl) ?_
    refine JL_pd rfl (det_move rfl) ?_
    -- stop: guard 5
    refine JL_split (d0 := 25) rfl (fun h3 => ?_) (fun h3 => ?_)
    · refine JL_guard rfl rfl h3 ?_
      refine JL_pd rfl (det_move rfl) ?_
      refine JL_guard rfl rfl h3 ?_
      refine JL_pd rfl (det_move rfl) ?_
      refine JL_guard rfl rfl h3 ?_
      refine JL_pd rfl (det_move rfl) ?_
      refine JL_guard rfl rfl h3 ?_
      -- stop: op  9 t29 := (call (Call (value t26) (t27 t28) (3 3)))   <6 7 8 5 5>   35
      refine JL_step rfl rfl rfl (jo_callv rfl rfl Tryz.call147 rfl (reaches_j r a c S V (lsP S)[i] hp n hn)) fun _ => ?_
      refine JL_pd rfl (det_pick_t rfl h3 rfl) ?_
      refine JL_nil ?_
      refine JE_seq ?_
      -- stop: cond
      refine JC_cond rfl (fun h4 => ?_) (fun h4 => ?_)
      · rw [if_pos (by unfold tcC; rw [h3, h4]; rfl)] at hst
        refine JC_region ?_
        refine JL_pd rfl (det_move rfl) ?_
        refine JL_pd rfl (det_move rfl) ?_
        refine JL_pd rfl (det_shlS (lsP S)[i] rfl rfl rfl (by omega)) ?_
        refine JL_pd rfl (det_orS _ _ rfl rfl) ?_
        refine JL_pd rfl (det_assign rfl) ?_
        refine JL_nil ?_
        refine JE_block ?_
        refine JE_seq ?_
        refine JC_region ?_
        refine JL_pd rfl (det_add rfl rfl ⟨by omega, by omega⟩) ?_
        refine JL_pd rfl (det_move rfl) ?_
        refine JL_nil ?_
        -- stop: end
        refine JE_roundF hK (i + 1) (by omega) (by omega) (stsub_consI rfl (by omega) (stsub_cons (by rw [hst]; rfl) stsub_nil)) ht_nil
      · rw [if_neg (by unfold tcC; rw [h4, Bool.and_false]; decide)] at hst
        refine JC_skip ?_
        refine JE_block ?_
        refine JE_seq ?_
        refine JC_region ?_
        refine JL_pd rfl (det_add rfl rfl ⟨by omega, by omega⟩) ?_
        refine JL_pd rfl (det_move rfl) ?_
        refine JL_nil ?_
        -- stop: end
        refine JE_roundF hK (i + 1) (by omega) (by omega) (stsub_consI rfl (by omega) (stsub_cons (by rw [hst]; rfl) stsub_nil)) ht_nil
    · rw [if_neg (by unfold tcC; rw [h3, Bool.false_and]; decide)] at hst
      refine JL_skip rfl rfl h3 rfl ?_
      refine JL_skip rfl rfl h3 rfl ?_
      refine JL_skip rfl rfl h3 rfl ?_
      refine JL_skip rfl rfl h3 rfl ?_
      refine JL_pd rfl (det_pick_f rfl h3 rfl) ?_
      refine JL_nil ?_
      refine JE_seq ?_
      -- stop: cond
      refine JC_cond rfl (fun h4 => ?_) (fun h4 => ?_)
      · cases h4
      refine JC_skip ?_
      refine JE_block ?_
      refine JE_seq ?_
      refine JC_region ?_
      refine JL_pd rfl (det_add rfl rfl ⟨by omega, by omega⟩) ?_
      refine JL_pd rfl (det_move rfl) ?_
      refine JL_nil ?_
      -- stop: end
      refine JE_roundF hK (i + 1) (by omega) (by omega) (stsub_consI rfl (by omega) (stsub_cons (by rw [hst]; rfl) stsub_nil)) ht_nil
  · obtain rfl : i = (lsP S).length := by omega
    have e : tchT r S row n (lsP S).length = tch r S row n := by unfold tchT tch; rw [List.take_length]
    rw [e]
    refine JC_exit ?_
    refine JE_seq_exit ?_
    refine JE_then_exit ?_
    refine JE_block_here ?_
    refine JE_seq ?_
    refine JC_seq ?_
    refine JC_region ?_
    refine JL_pd rfl (det_move rfl) ?_
    refine JL_pd rfl (det_assign rfl) ?_
    refine JL_nil ?_
    refine JE_seq ?_
    refine JC_ret ?_
    -- stop: out
    refine JE_out (.inl rfl) () (results1 Tryz.results105 (res_tmp rfl)) rfl (List.Perm.refl _) (fun _ _ => trivial)
end Go.Proofs.YthpkgabckklojaaGreat.Rk

/- Rack: a rack with pins, and with a ball. -/
namespace Go.Proofs.YthpkgabckklojaaGreat.Rk
open Go.RowKit Go.Shelf

/-- A list rises from a number on. -/
def upB : Int → List Int → Bool
  | _, [] => true
  | s, x :: xs => decide (s < x) && upB x xs
abbrev fRi (lb : Nat) : Value := .func (.func 113) #[] #[.pointer (some ⟨lb, 0, none⟩)]
theorem rises_j (lb : Nat) (s x : Int) : Cx Tryz.prog 113 [I x, .pointer (some ⟨lb, 0, none⟩)] [bx lb [I s]] KTrue (fun _ : Unit => .bool (decide (s < x))) (fun _ => [bx lb [I x]]) (fun _ => KTrue) := by
  refine Cx_of Tryz.func113 rfl Tryz.ntmps113 rfl fun w0 M0 => ?_
  refine JC_seq ?_
  refine JC_region ?_
  refine JL_pd rfl (det_assign rfl) ?_
  refine JL_nil ?_
  refine JE_seq ?_
  refine JC_seq ?_
  refine JC_region ?_
  refine JL_pd rfl (det_move rfl) ?_
  refine JL_dt rfl (det_loadK rfl Tryz.isAgg3 rfl) ?_
  refine JL_pd rfl (det_gtr rfl rfl) ?_
  refine JL_pd rfl (det_assign rfl) ?_
  refine JL_nil ?_
  refine JE_seq ?_
  refine JC_seq ?_
  refine JC_region ?_
  refine JL_pd rfl (det_move rfl) ?_
  refine JL_step0 rfl rfl (jo_store rfl rfl rfl (by first | (simp only [splice_norm]; done) | (simp only [splice_norm]; rfl) | rfl) Tryz.sizeOf3 rfl rfl) fun _ => ?_
  refine JL_nil ?_
  refine JE_seq ?_
  refine JC_seq ?_
  refine JC_region ?_
  refine JL_pd rfl (det_move rfl) ?_
  refine JL_pd rfl (det_assign rfl) ?_
  refine JL_nil ?_
  refine JE_seq ?_
  refine JC_ret ?_
  -- stop: out
  refine JE_out (.inl rfl) () (results1 Tryz.results113 (res_tmp rfl)) rfl pick_perm (fun _ _ => trivial)
theorem ht2 {H D : List Chunk} {c1 c2 : Chunk} {H1 : List Chunk} [h1 : Pick H c1 H1] [h2 : Pick H1 c2 D] : H.Perm ([c1, c2] ++ D) := ht_cons (ht_cons ht_nil)
theorem all1S_j (b3 lb : Nat) (s x : Int) : Cx Tryz.prog 151 [I x, .pointer (some ⟨b3, 0, none⟩)] [bx b3 [fRi lb], bx lb [I s]] KTrue (fun _ : Unit => .bool (!decide (s < x))) (fun _ => [bx b3 [fRi lb], bx lb [I x]]) (fun _ => KTrue) := by
  refine Cx_of Tryz.func151 rfl Tryz.ntmps151 rfl fun w0 M0 => ?_
  refine JC_seq ?_
  refine JC_region ?_
  refine JL_pd rfl (det_assign rfl) ?_
  refine JL_nil ?_
  refine JE_seq ?_
  refine JC_seq ?_
  refine JC_region ?_
  refine JL_dt rfl (det_loadK rfl Tryz.isAgg119 rfl) ?_
  refine JL_pd rfl (det_move rfl) ?_
  -- stop: op  2 t6 := (call (Call (value t4) (t5) (3)))   <0 1>   43
  refine JL_step rfl rfl rfl (jo_callx rfl rfl Tryz.call113 rfl (rises_j lb s x) (pick_perm)) fun u => ?_
  refine JL_pd rfl (det_not rfl) ?_
  refine JL_pd rfl (det_assign rfl) ?_
  refine JL_nil ?_
  refine JE_seq ?_
  refine JC_ret ?_
  -- stop: out
  refine JE_out (.inl rfl) () (results1 Tryz.results151 (res_tmp rfl)) rfl ht2 (fun _ _ => trivial)
set_option maxRecDepth 100000 in
theorem indexS_j (b3 lb : Nat) (s : Int) (a : Option Addr) (c : Nat) (xs : List Int) : Cx Tryz.prog 187 [.slice a xs.length c, .func (.func 151) #[] #[.pointer (some ⟨b3, 0, none⟩)]] [bx b3 [fRi lb], bx lb [I s]] (KSl a xs.length c encN xs) (fun q : {q : Int × Int // decide (0 ≤ q.1) = !upB s xs} => I q.1.1) (fun q => [bx b3 [fRi lb], bx lb [I q.1.2]]) (fun _ => KTrue) := by
  refine Cx_of Tryz.func187 rfl Tryz.ntmps187 rfl fun w0 M0 => ?_
  refine JC_seq ?_
  refine JC_region ?_
  refine JL_pd rfl (det_assign rfl) ?_
  refine JL_nil ?_
  refine JE_seq ?_
  refine JC_seq ?_
  refine JC_seq ?_
  refine JC_region ?_
  refine JL_pd rfl (det_move rfl) ?_
  refine JL_pd rfl (det_len rfl Tryz.runUnderlying31) ?_
  refine JL_pd rfl (det_move rfl) ?_
  refine JL_nil ?_
  refine JE_seq ?_
  refine JC_block ?_
  -- stop: loop
  refine JC_pure (p := xs.length ≤ 9223372036854775807) (by intro w h; exact h.1.bd) fun hz => ?_
  refine JC_loopF (γ := Nat × Int) (fun q => q.1 ≤ xs.length ∧ upB s xs = upB q.2 (xs.drop q.1)) (fun q => [(8, I q.1)]) (fun q => [bx b3 [fRi lb], bx lb [I q.2]]) (fun q => xs.length - q.1) (0, s) ⟨Nat.zero_le _, rfl⟩ (stsub_consI rfl rfl stsub_nil) (ht_cons (ht_cons ht_nil)) ?_
  rintro ⟨i, t⟩ ⟨hi, hup⟩ K hK
  dsimp only [List.cons_append, List.nil_append] at hi hup ⊢
  refine JC_seq ?_
  refine JC_region ?_
  refine JL_pd rfl (det_lss rfl rfl) ?_
  refine JL_nil ?_
  refine JE_seq ?_
  refine JC_seq ?_
  -- stop: cond
  refine JC_if rfl (fun h1 => ?_) (fun h1 => ?_)
  · have hi2 : i < xs.length := by omega
    have hdr : xs.drop i = xs[i] :: xs.drop (i + 1) := (List.getElem_cons_drop hi2).symm
    rw [hdr] at hup
    refine JC_skip ?_
    refine JE_seq ?_
    refine JC_seq ?_
    refine JC_block ?_
    refine JC_seq ?_
    refine JC_region ?_
    refine JL_pd rfl (det_move rfl) ?_
    refine JL_pd rfl (det_assign rfl) ?_
    refine JL_nil ?_
    refine JE_seq ?_
    refine JC_seq ?_
    refine JC_region ?_
    refine JL_pd rfl (det_move rfl) ?_
    refine JL_pd rfl (det_move rfl) ?_
    refine JL_pd rfl (det_move rfl) ?_
    refine JL_dt rfl (det_indexAddr rfl rfl (by first | rfl | omega) (by first | assumption | omega | decide) Tryz.runUnderlying31 Tryz.sizeOf3) ?_
    refine JL_dt rfl (det_loadE rfl (by first | assumption | omega | decide) Tryz.isAgg3 rfl rfl) ?_
    -- stop: op  5 t16 := (call (Call (value t11) (t15) (3)))   <0 4>   109
    refine JL_step rfl rfl rfl (jo_callx rfl rfl Tryz.call151 rfl (all1S_j b3 lb t xs[i]) (ht2)) fun u => ?_
    refine JL_nil ?_
    refine JE_seq ?_
    -- stop: cond
    refine JC_cond rfl (fun h2 => ?_) (fun h2 => ?_)
    · have h3 : upB s xs = false := by
        rw [hup]
        unfold upB
        rw [Bool.not_eq_true'] at h2
        rw [h2]; rfl
      refine JC_seq ?_
      refine JC_region ?_
      refine JL_pd rfl (det_move rfl) ?_
      refine JL_pd rfl (det_assign rfl) ?_
      refine JL_nil ?_
      refine JE_seq ?_
      refine JC_ret ?_
      refine JE_block_ret ?_
      refine JE_seq_ret ?_
      refine JE_then_ret ?_
      refine JE_block_ret ?_
      refine JE_seq_ret ?_
      -- stop: out
      refine JE_out (.inl rfl) ⟨((i : Int), xs[i]), by rw [h3]; exact decide_eq_true (by simp only; omega)⟩ (results1 Tryz.results187 (res_tmp rfl)) rfl ht2 (fun _ _ => trivial)
    · have h3 : decide (t < xs[i]) = true := by simpa using h2
      refine JC_skip ?_
      refine JE_block ?_
      refine JE_seq ?_
      refine JC_region ?_
      refine JL_pd rfl (det_add rfl rfl ⟨by omega, by omega⟩) ?_
      refine JL_pd rfl (det_move rfl) ?_
      refine JL_nil ?_
      -- stop: end
      refine JE_roundF hK (i + 1, xs[i]) ⟨by simp only; omega, by simp only; rw [hup, show upB t (xs[i] :: xs.drop (i + 1)) = (decide (t < xs[i]) && upB xs[i] (xs.drop (i + 1))) from rfl, h3, Bool.true_and]⟩ (by simp only; omega) (stsub_consI rfl (by simp only; omega) stsub_nil) (ht_cons (ht_cons ht_nil))
  · obtain rfl : i = xs.length := by omega
    rw [List.drop_length] at hup
    refine JC_exit ?_
    refine JE_seq_exit ?_
    refine JE_then_exit ?_
    refine JE_block_here ?_
    refine JE_seq ?_
    refine JC_seq ?_
    refine JC_region ?_
    refine JL_pd rfl (det_assign rfl) ?_
    refine JL_nil ?_
    refine JE_seq ?_
    refine JC_ret ?_
    -- stop: out
    refine JE_out (.inl rfl) ⟨(-1, t), by rw [hup]; rfl⟩ (results1 Tryz.results187 (res_tmp rfl)) rfl ht2 (fun _ _ => trivial)
theorem containsS_j (b3 lb : Nat) (s : Int) (a : Option Addr) (c : Nat) (xs : List Int) : Cx Tryz.prog 137 [.slice a xs.length c, .func (.func 151) #[] #[.pointer (some ⟨b3, 0, none⟩)]] [bx b3 [fRi lb], bx lb [I s]] (KSl a xs.length c encN xs) (fun _ : Int => .bool (!upB s xs)) (fun q => [bx b3 [fRi lb], bx lb [I q]]) (fun _ => KTrue) := by
  refine Cx_of Tryz.func137 rfl Tryz.ntmps137 rfl fun w0 M0 => ?_
  refine JC_seq ?_
  refine JC_region ?_
  refine JL_pd rfl (det_assign rfl) ?_
  refine JL_nil ?_
  refine JE_seq ?_
  refine JC_seq ?_
  refine JC_region ?_
  refine JL_pd rfl (det_move rfl) ?_
  refine JL_pd rfl (det_move rfl) ?_
  -- stop: op  2 t7 := (call (Call (value f187) (t5 t6) (31 119)))   <0 1>   125
  refine JL_step rfl rfl rfl (jo_callx rfl rfl Tryz.call187 rfl (indexS_j b3 lb s a c xs) (ht2)) fun u => ?_
  refine JL_pd rfl (det_geq rfl rfl) ?_
  refine JL_pd rfl (det_assign rfl) ?_
  refine JL_nil ?_
  refine JE_seq ?_
  refine JC_ret ?_
  -- stop: out
  refine JE_out (.inl rfl) u.1.2 (results1 Tryz.results137 (res_tmp rfl)) (by rw [u.2]) ht2 (fun _ _ => trivial)
theorem allS_j (lb : Nat) (s : Int) (a : Option Addr) (c : Nat) (xs : List Int) : Cx Tryz.prog 114 [.slice a xs.length c, fRi lb] [bx lb [I s]] (KSl a xs.length c encN xs) (fun _ : Int => .bool (upB s xs)) (fun q => [bx lb [I q]]) (fun _ => KTrue) := by
  refine Cx_of Tryz.func114 rfl Tryz.ntmps114 rfl fun w0 M0 => ?_
  refine JC_seq ?_
  refine JC_region ?_
  refine JL_step rfl rfl rfl (jo_box rfl rfl) fun b3 => ?_
  refine JL_pd rfl (det_assign rfl) ?_
  refine JL_nil ?_
  refine JE_seq ?_
  refine JC_seq ?_
  refine JC_region ?_
  refine JL_pd rfl (det_move rfl) ?_
  refine JL_pd rfl (det_makeFuncE rfl rfl) ?_
  -- stop: op  2 t7 := (call (Call (value f137) (t5 t6) (31 119)))   <0 1>   43
  refine JL_step rfl rfl rfl (jo_callx rfl rfl Tryz.call137 rfl (containsS_j b3 lb s a c xs) (ht2)) fun u => ?_
  refine JL_pd rfl (det_not rfl) ?_
  refine JL_pd rfl (det_assign rfl) ?_
  refine JL_nil ?_
  refine JE_seq ?_
  refine JC_ret ?_
  -- stop: out
  refine JE_out (.inl rfl) u (results1 Tryz.results114 (res_tmp rfl)) (by rw [Bool.not_not]) pick_perm (fun _ _ => trivial)
structure VP (r : Rk) (l : List Int) : Prop where
  pin : ∀ x ∈ l, 0 ≤ x ∧ x ≤ pinsN r.rows - 1
  up : upB (-1) l = true
theorem VP.ten {r : Rk} {l : List Int} (h : VP r l) (V : VR r) : ∀ x ∈ l, 0 ≤ x ∧ x ≤ 9 := fun x hx => by
  have h1 := h.pin x hx
  have h2 := (pins_of V.r0 V.r1).2.2
  omega
set_option maxRecDepth 100000 in
set_option maxHeartbeats 1000000 in
theorem pinned_j (r : Rk) (a : Option Addr) (c : Nat) (V : VR r) (la : Option Addr) (lc : Nat) (l : List Int) (hl : VP r l) : Cv Tryz.prog 70 [vRk r a c, .slice la l.length lc] (KAnd (KRk r a c) (KSl la l.length lc encN l)) (.tuple #[bv (ofL l), I 0]) := by
  refine Cr.toCv (α := Unit) (ret := fun _ => .tuple #[bv (ofL l), I 0]) (post := fun _ _ => True) ?_ fun _ => rfl
  have hC := CheckRack_j r a c
  rw [of_vr V] at hC
  refine Cx_of Tryz.func70 rfl Tryz.ntmps70 rfl fun w0 M0 => ?_
  refine JC_seq ?_
  refine JC_region ?_
  refine JL_step rfl rfl rfl (jo_box rfl rfl) fun b2 => ?_
  refine JL_pd rfl (det_assign rfl) ?_
  refine JL_pd rfl (det_assign rfl) ?_
  refine JL_nil ?_
  refine JE_seq ?_
  refine JC_seq ?_
  refine JC_seq ?_
  refine JC_region ?_
  refine JL_dt rfl (det_loadKA rfl Tryz.isAgg65 Tryz.sizeOf65 rfl rfl) ?_
  refine JL_step rfl rfl rfl (jo_callv rfl rfl Tryz.call112 rfl (hC)) fun _ => ?_
  refine JL_pd rfl (det_assign rfl) ?_
  refine JL_nil ?_
  refine JE_seq ?_
  refine JC_seq ?_
  refine JC_region ?_
  refine JL_pd rfl (det_move rfl) ?_
  refine JL_pd rfl (det_neq rfl rfl) ?_
  refine JL_nil ?_
  refine JE_seq ?_
  -- stop: cond
  refine JC_ifn rfl (fun h1 => ?_) (fun h1 => ?_)
  · exact absurd rfl h1
  refine JC_pure (p := l.length ≤ 9223372036854775807) (by intro w h; exact h.2.1.bd) fun hz => ?_
  have hall := allI_j (fun x => inI x 0 (pinsN r.rows - 1)) 115 [vRk r a c] [] KTrue Tryz.call115 la lc l (fun x _ => pin_j r a c ⟨V.r0, V.r1⟩ x) hz
  have hal : l.all (fun x => inI x 0 (pinsN r.rows - 1)) = true := List.all_eq_true.2 fun x hx => inI_iff.2 (hl.pin x hx)
  rw [hal] at hall
  refine JC_skip ?_
  refine JE_seq ?_
  refine JC_seq ?_
  refine JC_region ?_
  refine JL_step rfl rfl rfl (jo_alloc0 Tryz.zeroValue3 rfl) fun b7 => ?_
  refine JL_step0 rfl rfl (jo_store rfl rfl rfl (by first | (simp only [splice_norm]; done) | (simp only [splice_norm]; rfl) | rfl) Tryz.sizeOf3 rfl rfl) fun _ => ?_
  refine JL_nil ?_
  refine JE_seq ?_
  refine JC_seq ?_
  refine JC_region ?_
  refine JL_pd rfl (det_makeFuncE rfl rfl) ?_
  refine JL_pd rfl (det_assign rfl) ?_
  refine JL_nil ?_
  refine JE_seq ?_
  refine JC_seq ?_
  refine JC_seq ?_
  refine JC_region ?_
  refine JL_pd rfl (det_move rfl) ?_
  refine JL_dt rfl (det_loadKA rfl Tryz.isAgg65 Tryz.sizeOf65 rfl rfl) ?_
  refine JL_pd rfl (det_makeFuncE rfl rfl) ?_
  refine JL_step rfl rfl rfl (jo_callv rfl rfl Tryz.call114 rfl (hall)) fun _ => ?_
  refine JL_pd rfl (det_not rfl) ?_
  refine JL_pd rfl (det_move rfl) ?_
  -- stop: guard 5
  refine JL_is (d0 := 20) false rfl (by rfl) (fun g2 => ?_)
  refine JL_guard rfl rfl g2 ?_
  refine JL_pd rfl (det_move rfl) ?_
  refine JL_guard rfl rfl g2 ?_
  refine JL_pd rfl (det_move rfl) ?_
  refine JL_guard rfl rfl g2 ?_
  -- stop: op  8 t23 := (call (Call (value f114) (t21 t22) (31 119)))   <6 7 5 5>   176
  -- stop: op  8 t23 := (call (Call (value f114) (t21 t22) (31 119)))   <6 7 5 5>   176
  refine JL_step rfl rfl rfl (jo_callx rfl rfl Tryz.call114 rfl (allS_j b7 (-1) la lc l) (pick_perm)) fun u => ?_
  refine JL_guard rfl rfl g2 ?_
  refine JL_pd rfl (det_not rfl) ?_
  refine JL_pd rfl (det_pick_f rfl g2 rfl) ?_
  refine JL_nil ?_
  refine JE_seq ?_
  -- stop: cond
  rw [hl.up]
  -- stop: cond
  refine JC_cond rfl (fun h3 => ?_) (fun h3 => ?_)
  · cases h3
  refine JC_skip ?_
  refine JE_seq ?_
  refine JC_seq ?_
  refine JC_region ?_
  refine JL_pd rfl (det_move rfl) ?_
  refine JL_step rfl rfl rfl (jo_callv rfl rfl Tryz.call116 rfl (of_j la lc l (hl.ten V))) fun _ => ?_
  refine JL_pd rfl (det_assign rfl) ?_
  refine JL_pd rfl (det_assign rfl) ?_
  refine JL_nil ?_
  refine JE_seq ?_
  refine JC_ret ?_
  -- stop: out
  refine JE_out (.inl rfl) () (results2 Tryz.results70 (res_tmp rfl) (res_tmp rfl)) rfl (List.Perm.refl _) (fun _ _ => trivial)
end Go.Proofs.YthpkgabckklojaaGreat.Rk

/- Rack: a ball; pins that fall. -/
namespace Go.Proofs.YthpkgabckklojaaGreat.Rk
open Go.RowKit Go.Shelf

def bOk (b : Rg) : Bool := inI b.lo 0 b.hi && (decide (b.hi ≤ 60) && decide (b.hi - b.lo ≤ 8))
theorem bOk_iff {b : Rg} : bOk b = true ↔ 0 ≤ b.lo ∧ b.lo ≤ b.hi ∧ b.hi ≤ 60 ∧ b.hi - b.lo ≤ 8 := by
  unfold bOk
  simp only [Bool.and_eq_true, inI_iff, decide_eq_true_eq]
  omega
structure VB (r : Rk) (ball : List Rg) : Prop where
  n : (ball.length : Int) = r.rows
  b : ∀ b ∈ ball, bOk b = true
theorem ball1_j (b : Rg) (hb : bOk b = true) : Cv Tryz.prog 145 [.agg #[I b.lo, I b.hi]] KTrue (.bool (bOk b)) := by
  have h := bOk_iff.1 hb
  refine Cx_of Tryz.func145 rfl Tryz.ntmps145 rfl fun w0 M0 => ?_
  refine JC_seq ?_
  refine JC_region ?_
  refine JL_step rfl rfl rfl (jo_box rfl rfl) fun b1 => ?_
  refine JL_pd rfl (det_assign rfl) ?_
  refine JL_nil ?_
  refine JE_seq ?_
  refine JC_seq ?_
  refine JC_region ?_
  refine JL_pd rfl (det_fieldAddr rfl fo_71_0) ?_
  refine JL_dt rfl (det_loadK rfl Tryz.isAgg3 rfl) ?_
  refine JL_pd rfl (det_fieldAddr rfl fo_71_1) ?_
  refine JL_dt rfl (det_loadK rfl Tryz.isAgg3 rfl) ?_
  refine JL_step rfl rfl rfl (jo_callv rfl rfl Tryz.call58 rfl (kwithin_j _ _ _)) fun _ => ?_
  refine JL_pd rfl (det_move rfl) ?_
  -- stop: guard 5
  refine JL_join1 13 2 (.bool (bOk b)) (fun hj => ?_) ?_
  · refine JL_split (d0 := 8) rfl (fun q1 => ?_) (fun q1 => ?_)
    · refine JL_guard rfl rfl q1 ?_
      refine JL_pd rfl (det_fieldAddr rfl fo_71_1) ?_
      refine JL_guard rfl rfl q1 ?_
      refine JL_dt rfl (det_loadK rfl Tryz.isAgg3 rfl) ?_
      refine JL_guard rfl rfl q1 ?_
      refine JL_pd rfl (det_leq rfl rfl) ?_
      refine JL_pd rfl (det_pick_t rfl q1 rfl) ?_
      refine JL_pd rfl (det_move rfl) ?_
      refine JL_split (d0 := 13) rfl (fun q2 => ?_) (fun q2 => ?_)
      · refine JL_guard rfl rfl q2 ?_
        refine JL_pd rfl (det_fieldAddr rfl fo_71_1) ?_
        refine JL_guard rfl rfl q2 ?_
        refine JL_dt rfl (det_loadK rfl Tryz.isAgg3 rfl) ?_
        refine JL_guard rfl rfl q2 ?_
        refine JL_pd rfl (det_fieldAddr rfl fo_71_0) ?_
        refine JL_guard rfl rfl q2 ?_
        refine JL_dt rfl (det_loadK rfl Tryz.isAgg3 rfl) ?_
        refine JL_guard rfl rfl q2 ?_
        refine JL_pd rfl (det_sub rfl rfl ⟨by omega, by omega⟩) ?_
        refine JL_guard rfl rfl q2 ?_
        refine JL_pd rfl (det_leq rfl rfl) ?_
        refine JL_pd rfl (det_pick_t rfl q2 rfl) ?_
        refine JL_pd rfl (det_assign rfl) ?_
        exact hj (by kernel_rfl) (stsub_consB rfl (by clear hj; first | rfl | (simp only [bOk, q1, q2, Bool.and_true, Bool.true_and, Bool.false_and, Bool.and_false, Bool.or_true, Bool.true_or, Bool.or_false, Bool.false_or, Bool.not_true, Bool.not_false]; done) | (simp [bOk, q1, q2]; done) | (simp [bOk] at q1; done) | (simp [bOk] at q2; done) | (simp [bOk, q1, q2] <;> omega) | (exfalso; simp [bOk] at q1 q2; omega) | (simp [q2, bOk] at q1; done) | (simp [q1, bOk] at q2; done)) stsub_nil)
      · refine JL_skip rfl rfl q2 rfl ?_
        refine JL_skip rfl rfl q2 rfl ?_
        refine JL_skip rfl rfl q2 rfl ?_
        refine JL_skip rfl rfl q2 rfl ?_
        refine JL_skip rfl rfl q2 rfl ?_
        refine JL_skip rfl rfl q2 rfl ?_
        refine JL_pd rfl (det_pick_f rfl q2 rfl) ?_
        refine JL_pd rfl (det_assign rfl) ?_
        exact hj (by kernel_rfl) (stsub_consB rfl (by clear hj; first | rfl | (simp only [bOk, q1, q2, Bool.and_true, Bool.true_and, Bool.false_and, Bool.and_false, Bool.or_true, Bool.true_or, Bool.or_false, Bool.false_or, Bool.not_true, Bool.not_false]; done) | (simp [bOk, q1, q2]; done) | (simp [bOk] at q1; done) | (simp [bOk] at q2; done) | (simp [bOk, q1, q2] <;> omega) | (exfalso; simp [bOk] at q1 q2; omega) | (simp [q2, bOk] at q1; done) | (simp [q1, bOk] at q2; done)) stsub_nil)
    · refine JL_skip rfl rfl q1 rfl ?_
      refine JL_skip rfl rfl q1 rfl ?_
      refine JL_skip rfl rfl q1 rfl ?_
      refine JL_pd rfl (det_pick_f rfl q1 rfl) ?_
      refine JL_pd rfl (det_move rfl) ?_
      refine JL_skip rfl rfl rfl rfl ?_
      refine JL_skip rfl rfl rfl rfl ?_
      refine JL_skip rfl rfl rfl rfl ?_
      refine JL_skip rfl rfl rfl rfl ?_
      refine JL_skip rfl rfl rfl rfl ?_
      refine JL_skip rfl rfl rfl rfl ?_
      refine JL_pd rfl (det_pick_f rfl rfl rfl) ?_
      refine JL_pd rfl (det_assign rfl) ?_
      exact hj (by kernel_rfl) (stsub_consB rfl (by clear hj; first | rfl | (simp only [bOk, q1, Bool.and_true, Bool.true_and, Bool.false_and, Bool.and_false, Bool.or_true, Bool.true_or, Bool.or_false, Bool.false_or, Bool.not_true, Bool.not_false]; done) | (simp [bOk, q1]; done) | (simp [bOk] at q1; done) | (simp [bOk, q1] <;> omega) | (exfalso; simp [bOk] at q1; omega)) stsub_nil)
  refine JL_nil ?_
  refine JE_seq ?_
  refine JC_ret ?_
  -- stop: out
  refine JE_out (.inl rfl) () (results1 Tryz.results145 (res_tmp rfl)) rfl (List.Perm.refl _) (fun _ _ => trivial)
theorem ball_j (r : Rk) (a : Option Addr) (c : Nat) (ba : Option Addr) (bc : Nat) (ball : List Rg) (hB : VB r ball) : Cv Tryz.prog 104 [vRk r a c, .slice ba ball.length bc] (KSl ba ball.length bc encRg ball) (.bool true) := by
  have hal : ball.all bOk = true := List.all_eq_true.2 hB.b
  refine Cx_of Tryz.func104 rfl Tryz.ntmps104 rfl fun w0 M0 => ?_
  refine JC_seq ?_
  refine JC_region ?_
  refine JL_step rfl rfl rfl (jo_box rfl rfl) fun b2 => ?_
  refine JL_pd rfl (det_assign rfl) ?_
  refine JL_nil ?_
  refine JE_seq ?_
  refine JC_seq ?_
  refine JC_region ?_
  refine JL_pd rfl (det_assign rfl) ?_
  refine JL_nil ?_
  refine JE_seq ?_
  refine JC_seq ?_
  refine JC_region ?_
  refine JL_pd rfl (det_move rfl) ?_
  refine JL_pd rfl (det_len rfl Tryz.runUnderlying67) ?_
  refine JL_pd rfl (det_fieldAddr rfl fo_65_0) ?_
  refine JL_dt rfl (det_loadK rfl Tryz.isAgg3 rfl) ?_
  refine JL_pd rfl (det_eql rfl rfl) ?_
  refine JL_pd rfl (det_move rfl) ?_
  -- stop: guard 5
  refine JL_pure (p := ball.length ≤ 9223372036854775807) (by intro w h; exact h.1.bd) fun hz => ?_
  have hallj := allR_j bOk 145 [] [] KTrue Tryz.call145 ba bc ball (fun x hx => ball1_j x (hB.b x hx)) hz
  rw [hal] at hallj
  refine JL_is (d0 := 11) true rfl (by exact decide_eq_true hB.n) (fun g1 => ?_)
  refine JL_guard rfl rfl g1 ?_
  refine JL_pd rfl (det_move rfl) ?_
  refine JL_guard rfl rfl g1 ?_
  refine JL_pd rfl (det_move rfl) ?_
  refine JL_guard rfl rfl g1 ?_
  refine JL_step rfl rfl rfl (jo_callv rfl rfl Tryz.call146 rfl (hallj)) fun _ => ?_
  refine JL_pd rfl (det_pick_t rfl g1 rfl) ?_
  refine JL_pd rfl (det_assign rfl) ?_
  refine JL_nil ?_
  refine JE_seq ?_
  refine JC_ret ?_
  -- stop: out
  -- stop: out
  refine JE_out (.inl rfl) () (results1 Tryz.results104 (res_tmp rfl)) rfl (List.Perm.refl _) (fun _ _ => trivial)
set_option maxRecDepth 100000 in
theorem thrown_j (r : Rk) (a : Option Addr) (c : Nat) (V : VR r) (la : Option Addr) (lc : Nat) (l : List Int) (hl : VP r l) (ba : Option Addr) (bc : Nat) (ball : List Rg) (hB : VB r ball) : Cv Tryz.prog 57 [vRk r a c, .slice la l.length lc, .slice ba ball.length bc] (KAnd (KRk r a c) (KAnd (KSl la l.length lc encN l) (KSl ba ball.length bc encRg ball))) (.tuple #[vHt r a c (ofL l), I 0]) := by
  refine Cx_of Tryz.func57 rfl Tryz.ntmps57 rfl fun w0 M0 => ?_
  refine JC_seq ?_
  refine JC_region ?_
  refine JL_step rfl rfl rfl (jo_box rfl rfl) fun b3 => ?_
  refine JL_step rfl rfl rfl (jo_alloc0 Tryz.zeroValue136 rfl) fun b6 => ?_
  refine JL_pd rfl (det_assign rfl) ?_
  refine JL_nil ?_
  refine JE_seq ?_
  refine JC_seq ?_
  refine JC_region ?_
  refine JL_dt rfl (det_loadKA rfl Tryz.isAgg65 Tryz.sizeOf65 rfl rfl) ?_
  refine JL_pd rfl (det_move rfl) ?_
  refine JL_step rfl rfl rfl (jo_callv rfl rfl Tryz.call70 rfl (pinned_j r a c V la lc l hl)) fun _ => ?_
  refine JL_pd rfl (det_move rfl) ?_
  refine JL_pd rfl (det_extract rfl rfl) ?_
  refine JL_pd rfl (det_extract rfl rfl) ?_
  refine JL_pd rfl (det_assign rfl) ?_
  refine JL_pd rfl (det_assign rfl) ?_
  refine JL_nil ?_
  refine JE_seq ?_
  refine JC_seq ?_
  refine JC_block ?_
  refine JC_seq ?_
  refine JC_region ?_
  refine JL_pd rfl (det_move rfl) ?_
  refine JL_pd rfl (det_neq rfl rfl) ?_
  refine JL_pd rfl (det_assign rfl) ?_
  refine JL_nil ?_
  refine JE_seq ?_
  -- stop: cond
  refine JC_ifn rfl (fun h1 => ?_) (fun h1 => ?_)
  · exact absurd rfl h1
  refine JC_seq ?_
  refine JC_region ?_
  refine JL_dt rfl (det_loadKA rfl Tryz.isAgg65 Tryz.sizeOf65 rfl rfl) ?_
  refine JL_pd rfl (det_move rfl) ?_
  refine JL_step rfl rfl rfl (jo_callv rfl rfl Tryz.call104 rfl (ball_j r a c ba bc ball hB)) fun _ => ?_
  refine JL_pd rfl (det_not rfl) ?_
  refine JL_pd rfl (det_assign rfl) ?_
  refine JL_nil ?_
  refine JE_seq ?_
  -- stop: cond
  refine JC_cond rfl (fun h2 => ?_) (fun h2 => ?_)
  · cases h2
  refine JC_skip ?_
  refine JE_block ?_
  refine JE_seq ?_
  refine JC_seq ?_
  refine JC_region ?_
  refine JL_dt rfl (det_loadKA rfl Tryz.isAgg65 Tryz.sizeOf65 rfl rfl) ?_
  refine JL_pd rfl (det_move rfl) ?_
  refine JL_pd rfl (det_build rfl (bld_136_0_1 _ _ _ _ _ _ _ _)) ?_
  refine JL_step0 rfl rfl (jo_store rfl rfl rfl (by first | (simp only [splice_norm]; done) | (simp only [splice_norm]; rfl) | rfl) Tryz.sizeOf136 rfl rfl) fun _ => ?_
  refine JL_pd rfl (det_assign rfl) ?_
  refine JL_nil ?_
  refine JE_seq ?_
  refine JC_ret ?_
  -- stop: out
  refine JE_out (.inl rfl) () (results2 Tryz.results57 (res_box rfl Tryz.isAgg136 Tryz.sizeOf136 rfl) (res_tmp rfl)) rfl (List.Perm.refl _) (fun _ _ => trivial)
end Go.Proofs.YthpkgabckklojaaGreat.Rk

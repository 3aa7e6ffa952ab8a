/- Own texts, laid together: B31. Nothing is asked. -/
import Derived.Test.YtjbmkdbgobmclaaQB
set_option linter.unusedSimpArgs false
set_option linter.unusedVariables false
/- Walks of bill: Shows. -/
namespace Go.Proofs.Ytjbmkdbgobmclaa
open Go.RowKit Go.Shelf

/-- What is left of a gap behind its first sales, if each takes as much as it can; these sales. -/
def fillR (n c : Int) : Nat → Int
  | 0 => c
  | i + 1 => fillR n c i - min 1000 (fillR n c i - (n - i - 1))
def fillN (n c : Int) : Nat → List Int
  | 0 => []
  | i + 1 => fillN n c i ++ [min 1000 (fillR n c i - (n - i - 1))]
theorem fillN_len (n c : Int) : ∀ i, (fillN n c i).length = i
  | 0 => rfl
  | i + 1 => by rw [fillN, List.length_append, fillN_len n c i]; rfl
theorem fill_inv {n c : Int} (h1 : n ≤ c) (h2 : c ≤ n * 1000) : ∀ i : Nat, (i : Int) ≤ n → n - i ≤ fillR n c i ∧ fillR n c i ≤ (n - i) * 1000 ∧ (fillN n c i).sum = c - fillR n c i ∧ ∀ x ∈ fillN n c i, okS x
  | 0, _ => ⟨by simp only [fillR]; omega, by simp only [fillR]; omega, by simp [fillN, fillR], by simp [fillN]⟩
  | i + 1, hi => by
    obtain ⟨i1, i2, i3, i4⟩ := fill_inv h1 h2 i (by omega)
    rw [fillR, fillN, List.sum_append, i3]
    refine ⟨by omega, by omega, by simp; omega, fun x hx => ?_⟩
    rcases List.mem_append.1 hx with hx | hx
    · exact i4 x hx
    · rw [List.mem_singleton.1 hx]; unfold okS; omega
theorem snocI_len (xs : List Int) (y : Int) : (xs ++ [y]).length = xs.length + 1 := by rw [List.length_append]; rfl
theorem snocI_flat (xs : List Int) (y : Int) : (xs ++ [y]).flatMap encI = xs.flatMap encI ++ encI y := by rw [List.flatMap_append]; simp
def fillG (g : Gp) : List Int := fillN (manyG g) g.co (manyG g).toNat
theorem fillG_ok {g : Gp} (h : okG g = true) : ((fillG g).length : Int) = manyG g ∧ (fillG g).sum = g.co ∧ ∀ x ∈ fillG g, okS x := by
  obtain ⟨h1, h2, h3⟩ := okG_iff.1 h
  have hn : ((manyG g).toNat : Int) = manyG g := by omega
  obtain ⟨i1, i2, i3, i4⟩ := fill_inv h2 h3 (manyG g).toNat (by omega)
  unfold fillG
  refine ⟨by rw [fillN_len]; omega, by rw [i3]; omega, i4⟩
def showG (z : Gp × Ms) : List Int := fillG z.1 ++ [z.2.coins]
def showsL (ts : List Ms) : List Int := (gapsL ts).flatMap showG
theorem shows_go : ∀ (ts : List Ms) (last : Ms), ((gapsF last ts).all fun z => okG z.1) = true → FitF last ts ((gapsF last ts).flatMap showG)
  | [], _, _ => rfl
  | m :: ts, last, h => by
    unfold gapsF at h ⊢
    rw [List.all_cons, Bool.and_eq_true] at h
    obtain ⟨h1, h2, h3⟩ := fillG_ok h.1
    refine ⟨fillG (gapOf last m), (gapsF m ts).flatMap showG, ?_, h1, h2, h3, shows_go ts m h.2⟩
    rw [List.flatMap_cons]
    unfold showG
    simp
theorem shows_fit {l : List Ms} (hV : ∀ m ∈ l, VMs m) (hf : fitB (srtL l) = true) : Fits l (showsL (srtL l)) := (fits_iff hV).2 (shows_go (srtL l) zM hf)
theorem showG_len {z : Gp × Ms} (h : gapBd z.1) : (showG z).length ≤ 2002 := by
  unfold showG fillG
  rw [List.length_append, fillN_len]
  obtain ⟨h1, h2, h3, h4, _⟩ := h
  simp only [List.length_cons, List.length_nil]
  unfold manyG
  omega
theorem show_len : ∀ (p : List (Gp × Ms)), (∀ z ∈ p, gapBd z.1) → (p.flatMap showG).length ≤ 2002 * p.length
  | [], _ => by simp
  | z :: p, h => by
    have h1 := showG_len (h z (by simp))
    have h2 := show_len p fun z hz => h z (by simp [hz])
    rw [List.flatMap_cons, List.length_append, List.length_cons]
    omega
set_option maxRecDepth 100000 in
theorem Shows_je (a : Option Addr) (c : Nat) (l : List Ms) (hl : l.length ≤ 1000) (h : readE l ≠ 0) : Cv Try.prog 48 [.slice a l.length c] (KSl a l.length c encM l) (.tuple #[.slice none 0 0, I (readE l)]) := by
  have hr := read_je a c l hl h
  generalize readE l = E at h hr
  refine Cx_of Try.func48 rfl Try.ntmps48 rfl fun w0 M0 => ?_
  refine JC_seq ?_
  refine JC_region ?_
  refine JL_pd rfl (det_assign rfl) ?_
  refine JL_pd rfl (det_assign rfl) ?_
  refine JL_nil ?_
  refine JE_seq ?_
  refine JC_seq ?_
  refine JC_region ?_
  refine JL_pd rfl (det_move rfl) ?_
  refine JL_step rfl rfl rfl (jo_callv rfl rfl Try.call58 rfl (hr)) fun _ => ?_
  refine JL_pd rfl (det_move rfl) ?_
  refine JL_pd rfl (det_extract rfl rfl) ?_
  refine JL_pd rfl (det_extract rfl rfl) ?_
  refine JL_step rfl rfl rfl (jo_alloc0 Try.zeroValue101 rfl) fun b4 => ?_
  refine JL_step0 rfl rfl (jo_store rfl rfl rfl (by first | (simp only [splice_norm]; done) | (simp only [splice_norm]; rfl) | rfl) Try.sizeOf101 rfl rfl) fun _ => ?_
  refine JL_pd rfl (det_assign rfl) ?_
  refine JL_nil ?_
  refine JE_seq ?_
  refine JC_seq ?_
  refine JC_seq ?_
  refine JC_region ?_
  refine JL_pd rfl (det_move rfl) ?_
  refine JL_pd rfl (det_neq rfl rfl) ?_
  refine JL_nil ?_
  refine JE_seq ?_
  -- stop: cond
  refine JC_ifn rfl (fun h1 => ?_) (fun h1 => ?_)
  · refine JC_seq ?_
    refine JC_region ?_
    refine JL_pd rfl (det_move rfl) ?_
    refine JL_pd rfl (det_assign rfl) ?_
    refine JL_pd rfl (det_assign rfl) ?_
    refine JL_nil ?_
    refine JE_seq ?_
    refine JC_ret ?_
    refine JE_seq_ret ?_
    -- stop: out
    refine JE_out (.inl rfl) () (results2 Try.results48 (res_tmp rfl) (res_tmp rfl)) rfl (List.Perm.refl _) (fun _ _ => trivial)
  · exact absurd h1 h
set_option maxRecDepth 100000 in
set_option maxHeartbeats 1000000 in
theorem Shows_jo (a : Option Addr) (c : Nat) (l : List Ms) (hl : l.length ≤ 1000) (h : readE l = 0) : Cr Try.prog 48 [.slice a l.length c] (KSl a l.length c encM l) (fun q : Option Addr × Nat => .tuple #[.slice q.1 (showsL (srtL l)).length q.2, I 0]) (fun q => KSl q.1 (showsL (srtL l)).length q.2 encI (showsL (srtL l))) := by
  have hr := read_jo a c l hl h
  obtain ⟨hln, hV, hfit⟩ := read_of h
  have hts := srt_len l
  have htV : ∀ m ∈ srtL l, VMs m := fun m hm => hV m (srt_mem.1 hm)
  generalize srtL l = ts at hr hts htV hfit
  have hbds := gaps_bd htV
  have hoks : ∀ z ∈ gapsL ts, okG z.1 = true := fun z hz => List.all_eq_true.1 hfit z hz
  have hgl : (gapsL ts).length = ts.length := gapsF_len ts zM
  refine Cx_of Try.func48 rfl Try.ntmps48 rfl fun w0 M0 => ?_
  refine JC_seq ?_
  refine JC_region ?_
  refine JL_pd rfl (det_assign rfl) ?_
  refine JL_pd rfl (det_assign rfl) ?_
  refine JL_nil ?_
  refine JE_seq ?_
  refine JC_seq ?_
  refine JC_region ?_
  refine JL_pd rfl (det_move rfl) ?_
  refine JL_step rfl rfl rfl (jo_call rfl rfl Try.call58 rfl (hr)) fun x12 => ?_
  refine JL_pd rfl (det_move rfl) ?_
  refine JL_pd rfl (det_extract rfl rfl) ?_
  refine JL_pd rfl (det_extract rfl rfl) ?_
  refine JL_step rfl rfl rfl (jo_alloc0 Try.zeroValue101 rfl) fun b4 => ?_
  refine JL_step0 rfl rfl (jo_store rfl rfl rfl (by first | (simp only [splice_norm]; done) | (simp only [splice_norm]; rfl) | rfl) Try.sizeOf101 rfl rfl) fun _ => ?_
  refine JL_pd rfl (det_assign rfl) ?_
  refine JL_nil ?_
  refine JE_seq ?_
  refine JC_seq ?_
  refine JC_seq ?_
  refine JC_region ?_
  refine JL_pd rfl (det_move rfl) ?_
  refine JL_pd rfl (det_neq rfl rfl) ?_
  refine JL_nil ?_
  refine JE_seq ?_
  -- stop: cond
  refine JC_ifn rfl (fun h1 => ?_) (fun h1 => ?_)
  · exact absurd rfl h1
  refine JC_skip ?_
  refine JE_seq ?_
  refine JC_seq ?_
  refine JC_region ?_
  refine JL_step rfl rfl rfl (jo_alloc0 Try.zeroValue22 rfl) fun b6 => ?_
  refine JL_nil ?_
  refine JE_seq ?_
  refine JC_seq ?_
  refine JC_seq ?_
  refine JC_region ?_
  refine JL_pd rfl (det_fieldAddr rfl fo_101_0) ?_
  refine JL_dt rfl (det_loadK rfl Try.isAgg99 rfl) ?_
  refine JL_step rfl rfl rfl (jo_call rfl rfl Try.call59 rfl (gaps_j _ ts.length _)) fun x20 => ?_
  refine JL_nil ?_
  refine JE_seq ?_
  refine JC_block ?_
  -- stop: rangeFunc
  have hit := gaps_it ts x12.1 x12.2 x20 htV (by omega)
  refine JC_keep b4 noFp ?_
  refine JC_nil 3 1 ?_
  refine JC_rangeI (γ := Value × List Int) (β := Nat × Nat) rfl rfl rfl rfl Try.call86 hit (perm2 (bx b6 [.slice none 0 0]) (ow (.slice none 0 0) 3 1 0 [])) (fun w _ h => ⟨Knows.know (F := KBox x20 _) w h, Knows.know (F := KSl x12.1 ts.length x12.2 encM ts) w h⟩) (fun _ => rfl) ?_
    (fun p g => g.2 = p.flatMap showG) (fun _ _ _ => False) (fun g => [bx b6 [g.1], ow g.1 3 1 g.2.length (g.2.flatMap encI)]) (.slice none 0 0, []) rfl rfl
    (fun x t => [(7, pt t.1), (8, pt t.2), (6, pt b6)]) (fun x t => [bx t.1 [I x.1.fr, I x.1.to_, I x.1.co], bx t.2 [I x.2.no, I x.2.coins, I x.2.total]]) ?_ ?_ ?_ ?_
  · show ∀ p ∈ [21, 22], p < 50
    decide
  · intro l' x W K0 hK0
    refine JC_seq ?_
    refine JC_region ?_
    refine JL_step rfl rfl rfl (jo_alloc0 Try.zeroValue108 rfl) fun b7 => ?_
    refine JL_step0 rfl rfl (jo_store rfl rfl rfl (by first | (simp only [splice_norm]; done) | (simp only [splice_norm]; rfl) | rfl) Try.sizeOf108 rfl rfl) fun _ => ?_
    refine JL_nil ?_
    refine JE_seq ?_
    refine JC_region ?_
    refine JL_step rfl rfl rfl (jo_alloc0 Try.zeroValue94 rfl) fun b8 => ?_
    refine JL_step0 rfl rfl (jo_store rfl rfl rfl (by first | (simp only [splice_norm]; done) | (simp only [splice_norm]; rfl) | rfl) Try.sizeOf94 rfl rfl) fun _ => ?_
    refine JL_nil ?_
    -- stop: end
    exact JE_asg (hK0 (b7, b8)) (stsub_cons rfl (stsub_cons rfl (stsub_cons rfl stsub_nil))) (hsub_cons (hsub_cons hsub_nil)) (fun _ h => trivial)
  · rintro l' p x ⟨v, base⟩ ⟨t7, t8⟩ W K1 QX hbase hpx hK1 _
    dsimp only at hbase
    have hxm : x ∈ gapsL ts := hpx.subset (by simp)
    obtain ⟨hgb, hvm⟩ := hbds x hxm
    obtain ⟨k1, k2, k3⟩ := okG_iff.1 (hoks x hxm)
    have hpl : p.length ≤ ts.length := by have := hpx.length_le; rw [List.length_append, List.length_singleton] at this; omega
    have hbl := show_len p fun z hz => (hbds z (hpx.subset (by simp [hz]))).1
    rw [← hbase] at hbl
    have hsn : (p ++ [x]).flatMap showG = base ++ fillN (manyG x.1) x.1.co (manyG x.1).toNat ++ [x.2.coins] := by
      rw [List.flatMap_append, ← hbase, List.flatMap_singleton]; unfold showG fillG; rw [List.append_assoc]
    have hinv := fun i : Nat => fill_inv k2 k3 i
    have hfl := fun i : Nat => fillN_len (manyG x.1) x.1.co i
    have hmn : x.1.to_ = x.1.fr + manyG x.1 - 1 := by unfold manyG; omega
    have g1 := hgb.1
    have g2 := hgb.2.1
    have g3 := hgb.2.2.1
    have g4 := hgb.2.2.2.1
    have g5 := hgb.2.2.2.2.1
    have g6 := hgb.2.2.2.2.2
    generalize hM : manyG x.1 = M at k1 k2 k3 hsn hinv hfl hmn
    obtain ⟨n, rfl⟩ : ∃ n : Nat, M = n := ⟨M.toNat, by omega⟩
    rw [Int.toNat_natCast] at hsn
    have hn : n ≤ 2001 := by omega
    refine JC_block ?_
    refine JC_seq ?_
    refine JC_block ?_
    -- stop: loop
    refine JC_know (R' := KTrue) (fun _ _ => trivial) ?_
    refine JC_loopF (γ := Nat × Value) (fun q => q.1 ≤ n) (fun _ => []) (fun q => [bx t7 [I (x.1.fr + q.1), I x.1.to_, I (fillR n x.1.co q.1)], bx b6 [q.2], ow q.2 3 1 (base ++ fillN n x.1.co q.1).length ((base ++ fillN n x.1.co q.1).flatMap encI)]) (fun q => n - q.1) (0, v) (by simp) stsub_nil (ht_bx (by simp [fillR]) (ht_bx rfl (ht_ow (by simp [fillN]) (by simp [fillN]) ht_nil))) ?_
    rintro ⟨i, u⟩ hi K hK
    dsimp only [List.cons_append, List.nil_append] at hi ⊢
    have htl : (base ++ fillN n x.1.co i).length ≤ 100000 := by rw [List.length_append, hfl]; omega
    obtain ⟨v1, v2, v3, v4⟩ := hinv i (by omega)
    have v5 := (sum_bd1 _ v4).1
    refine JC_seq ?_
    refine JC_seq ?_
    refine JC_region ?_
    refine JL_pd rfl (det_fieldAddr rfl fo_108_0) ?_
    refine JL_dt rfl (det_loadK rfl Try.isAgg3 rfl) ?_
    refine JL_pd rfl (det_fieldAddr rfl fo_108_1) ?_
    refine JL_dt rfl (det_loadK rfl Try.isAgg3 rfl) ?_
    refine JL_pd rfl (det_leq rfl rfl) ?_
    refine JL_nil ?_
    refine JE_seq ?_
    -- stop: cond
    refine JC_if rfl (fun h2 => ?_) (fun h2 => ?_)
    · have hi2 : i < n := by omega
      have hmj := much_j ⟨x.1.fr + i, x.1.to_, fillR n x.1.co i⟩ 1 (by unfold gapBd; simp only; omega) (by omega)
      have hmv : muchG ⟨x.1.fr + i, x.1.to_, fillR n x.1.co i⟩ 1 = min 1000 (fillR n x.1.co i - (n - i - 1)) := by unfold muchG manyG; simp only; omega
      rw [hmv] at hmj
      have hst : fillN n x.1.co (i + 1) = fillN n x.1.co i ++ [min 1000 (fillR n x.1.co i - (n - i - 1))] := rfl
      have hrt : fillR n x.1.co (i + 1) = fillR n x.1.co i - min 1000 (fillR n x.1.co i - (n - i - 1)) := rfl
      refine JC_skip ?_
      refine JE_seq ?_
      refine JC_block ?_
      refine JC_seq ?_
      refine JC_region ?_
      refine JL_dt rfl (det_loadKA rfl Try.isAgg108 Try.sizeOf108 rfl rfl) ?_
      refine JL_step rfl rfl rfl (jo_callv rfl rfl Try.call63 rfl (hmj)) fun _ => ?_
      refine JL_pd rfl (det_assign rfl) ?_
      refine JL_nil ?_
      refine JE_seq ?_
      refine JC_seq ?_
      refine JC_region ?_
      refine JL_dt rfl (det_loadK rfl Try.isAgg22 rfl) ?_
      refine JL_pd rfl (det_move rfl) ?_
      refine JL_step rfl rfl rfl (jo_buildSlice rfl (bsl_22_1_0 _)) fun b32 => ?_
      refine JL_step rfl rfl rfl (jo_append el_22 rfl rfl rfl rfl (by omega)) fun b33 => ?_
      refine JL_step0 rfl rfl (jo_store rfl rfl rfl (by first | (simp only [splice_norm]; done) | (simp only [splice_norm]; rfl) | rfl) Try.sizeOf22 rfl rfl) fun _ => ?_
      refine JL_nil ?_
      refine JE_seq ?_
      refine JC_region ?_
      refine JL_pd rfl (det_fieldAddr rfl fo_108_0) ?_
      refine JL_dt rfl (det_loadK rfl Try.isAgg3 rfl) ?_
      refine JL_pd rfl (det_add rfl rfl ⟨by omega, by omega⟩) ?_
      refine JL_pd rfl (det_fieldAddr rfl fo_108_1) ?_
      refine JL_dt rfl (det_loadK rfl Try.isAgg3 rfl) ?_
      refine JL_pd rfl (det_fieldAddr rfl fo_108_2) ?_
      refine JL_dt rfl (det_loadK rfl Try.isAgg3 rfl) ?_
      refine JL_pd rfl (det_move rfl) ?_
      refine JL_pd rfl (det_sub rfl rfl ⟨by omega, by omega⟩) ?_
      refine JL_pd rfl (det_build rfl (bld_108_0_1_2 _ _ _)) ?_
      refine JL_step0 rfl rfl (jo_store rfl rfl rfl (by first | (simp only [splice_norm]; done) | (simp only [splice_norm]; rfl) | rfl) Try.sizeOf108 rfl rfl) fun _ => ?_
      refine JL_nil ?_
      refine JE_block ?_
      -- stop: end
      refine JE_roundF hK (i + 1, .slice (some ⟨b33.1, 0, none⟩) ((base ++ fillN n x.1.co i).length + 1) b33.2) (by simp only; omega) (by simp only; omega) stsub_nil (ht_bx (by simp only; rw [hrt, show x.1.fr + ((i + 1 : Nat) : Int) = x.1.fr + i + 1 from by omega]) (ht_bx rfl (ht_ow (by simp only; rw [hst, ← List.append_assoc, snocI_len]) (by simp only; rw [hst, ← List.append_assoc, snocI_flat]; rfl) ht_nil)))
    · obtain rfl : i = n := by omega
      refine JC_exit ?_
      refine JE_seq_exit ?_
      refine JE_then_exit ?_
      refine JE_block_here ?_
      refine JE_seq ?_
      refine JC_region ?_
      refine JL_dt rfl (det_loadK rfl Try.isAgg22 rfl) ?_
      refine JL_pd rfl (det_fieldAddr rfl fo_94_1) ?_
      refine JL_dt rfl (det_loadK rfl Try.isAgg3 rfl) ?_
      refine JL_step rfl rfl rfl (jo_buildSlice rfl (bsl_22_1_0 _)) fun b47 => ?_
      refine JL_step rfl rfl rfl (jo_append el_22 rfl rfl rfl rfl (by omega)) fun b48 => ?_
      refine JL_step0 rfl rfl (jo_store rfl rfl rfl (by first | (simp only [splice_norm]; done) | (simp only [splice_norm]; rfl) | rfl) Try.sizeOf22 rfl rfl) fun _ => ?_
      refine JL_nil ?_
      refine JE_block ?_
      -- stop: end
      refine JE_next (fun st' R' a' W' => hK1 (.slice (some ⟨b48.1, 0, none⟩) ((base ++ fillN i x.1.co i).length + 1) b48.2, base ++ fillN i x.1.co i ++ [x.2.coins]) (by simp only; rw [hsn]) st' R' a' W') (ht_sub (ht_bx rfl (ht_ow (by rw [snocI_len]) (by rw [snocI_flat]; rfl) ht_nil)))
  · rintro ⟨v, base⟩ hbase
    dsimp only at hbase
    obtain rfl : base = showsL ts := hbase
    refine JE_block ?_
    refine JE_seq ?_
    refine JC_seq ?_
    refine JC_region ?_
    refine JL_dt rfl (det_loadK rfl Try.isAgg22 rfl) ?_
    refine JL_pd rfl (det_assign rfl) ?_
    refine JL_pd rfl (det_assign rfl) ?_
    refine JL_nil ?_
    refine JE_seq ?_
    refine JC_ret ?_
    -- stop: out
    refine JE_slice (enc := encI) (v := v) (showsL ts) noFp rfl rfl ?_
    rintro la lc rfl
    refine JE_out (.inl rfl) (la, lc) (results2 Try.results48 (res_tmp rfl) (res_tmp rfl)) rfl (List.Perm.refl _) (fun w h => h.1)
  · rintro cd p g _ h
    exact h.elim
end Go.Proofs.Ytjbmkdbgobmclaa

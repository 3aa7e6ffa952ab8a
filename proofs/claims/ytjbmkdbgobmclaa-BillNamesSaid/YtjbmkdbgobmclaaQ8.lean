/- Own texts, laid together: B16 B17 B18 B19. Nothing is asked. -/
import Derived.Test.YtjbmkdbgobmclaaQ7
import Derived.Test.YtjbmkdbgobmclaaQ4
set_option linter.unusedSimpArgs false
set_option linter.unusedVariables false
/- Walks of bill: Lost. -/
namespace Go.Proofs.Ytjbmkdbgobmclaa
open Go.RowKit Go.Shelf

theorem Cr.conv {P : Program} {f : FuncId} {args : List Value} {pre : World → Prop} {α : Type} {ret ret' : α → Value} {post post' : α → World → Prop} (h : Cr P f args pre ret post) (h1 : ∀ x, ret x = ret' x) (h2 : ∀ x w, post x w → post' x w) : Cr P f args pre ret' post' := by
  rw [← show ret = ret' from funext h1]
  exact h.mono (fun _ h => h) h2
theorem Cr.toCv {P : Program} {f : FuncId} {args : List Value} {pre : World → Prop} {α : Type} {ret : α → Value} {post : α → World → Prop} {v : Value} (h : Cr P f args pre ret post) (hv : ∀ x, ret x = v) : Cv P f args pre v := fun M w a b c d =>
  (h M w a b c d).mono fun e w' ⟨x, M', h1, h2, h3, h4, h5, h6, h7, _⟩ => ⟨(), M', by rw [h1, hv], h2, h3, h4, h5, h6, h7, fun _ _ => trivial⟩
theorem read_je (a : Option Addr) (c : Nat) (l : List Ms) (hl : l.length ≤ 1000) (h : readE l ≠ 0) : Cv Try.prog 58 [.slice a l.length c] (KSl a l.length c encM l) (.tuple #[.agg #[.slice none 0 0], I (readE l)]) :=
  (read_jj a c l hl).toCv fun _ => if_neg h
theorem read_jo (a : Option Addr) (c : Nat) (l : List Ms) (hl : l.length ≤ 1000) (h : readE l = 0) : Cr Try.prog 58 [.slice a l.length c] (KSl a l.length c encM l) (fun q : Option Addr × Nat => .tuple #[.agg #[.slice q.1 (srtL l).length q.2], I 0]) (fun q => KSl q.1 (srtL l).length q.2 encM (srtL l)) :=
  Cr.conv (read_jj a c l hl) (fun _ => if_pos h) (fun _ _ h2 => h2 h)
def rngI (lo hi : Int) : List Int := (List.range (hi + 1 - lo).toNat).map fun i : Nat => lo + (i : Int)
theorem rng_len (lo hi : Int) : (rngI lo hi).length = (hi + 1 - lo).toNat := by simp [rngI]
theorem rng_get {lo hi : Int} {i : Nat} (h : i < (rngI lo hi).length) : (rngI lo hi)[i] = lo + i := by simp [rngI]
theorem mem_rng {lo hi x : Int} : x ∈ rngI lo hi ↔ lo ≤ x ∧ x ≤ hi := by
  unfold rngI
  rw [List.mem_map]
  constructor
  · rintro ⟨i, hi, rfl⟩
    have := List.mem_range.1 hi
    omega
  · rintro ⟨h1, h2⟩
    exact ⟨(x - lo).toNat, List.mem_range.2 (by omega), by omega⟩
def gapR (z : Gp × Ms) : List Int := rngI z.1.fr z.1.to_
def lostL (ts : List Ms) : List Int := (gapsL ts).flatMap gapR
theorem gapR_len {z : Gp × Ms} (h : gapBd z.1) : (gapR z).length ≤ 2001 := by
  unfold gapR
  rw [rng_len]
  obtain ⟨h1, h2, h3, h4, _⟩ := h
  omega
theorem lost_len : ∀ (p : List (Gp × Ms)), (∀ z ∈ p, gapBd z.1) → (p.flatMap gapR).length ≤ 2001 * p.length
  | [], _ => by simp
  | z :: p, h => by
    have h1 := gapR_len (h z (by simp))
    have h2 := lost_len p fun z hz => h z (by simp [hz])
    rw [List.flatMap_cons, List.length_append, List.length_cons]
    omega
set_option maxRecDepth 100000 in
theorem Lost_je (a : Option Addr) (c : Nat) (l : List Ms) (hl : l.length ≤ 1000) (h : readE l ≠ 0) : Cv Try.prog 21 [.slice a l.length c] (KSl a l.length c encM l) (.tuple #[.slice none 0 0, I (readE l)]) := by
  have hr := read_je a c l hl h
  generalize readE l = E at h hr
  refine Cx_of Try.func21 rfl Try.ntmps21 rfl fun w0 M0 => ?_
  refine JC_seq ?_
  refine JC_region ?_
  refine JL_pd rfl (det_assign rfl) ?_
  refine JL_pd rfl (det_assign rfl) ?_
  refine JL_nil ?_
  refine JE_seq ?_
  refine JC_seq ?_
  refine JC_region ?_
  refine JL_pd rfl (det_move rfl) ?_
  refine JL_step rfl rfl rfl (jo_callv rfl rfl Try.call58 rfl (hr)) fun _ => ?_
  refine JL_pd rfl (det_move rfl) ?_
  refine JL_pd rfl (det_extract rfl rfl) ?_
  refine JL_pd rfl (det_extract rfl rfl) ?_
  refine JL_step rfl rfl rfl (jo_alloc0 Try.zeroValue101 rfl) fun b4 => ?_
  refine JL_step0 rfl rfl (jo_store rfl rfl rfl (by first | (simp only [splice_norm]; done) | (simp only [splice_norm]; rfl) | rfl) Try.sizeOf101 rfl rfl) fun _ => ?_
  refine JL_pd rfl (det_assign rfl) ?_
  refine JL_nil ?_
  refine JE_seq ?_
  refine JC_seq ?_
  refine JC_seq ?_
  refine JC_region ?_
  refine JL_pd rfl (det_move rfl) ?_
  refine JL_pd rfl (det_neq rfl rfl) ?_
  refine JL_nil ?_
  refine JE_seq ?_
  -- stop: cond
  refine JC_ifn rfl (fun h1 => ?_) (fun h1 => ?_)
  · refine JC_seq ?_
    refine JC_region ?_
    refine JL_pd rfl (det_move rfl) ?_
    refine JL_pd rfl (det_assign rfl) ?_
    refine JL_pd rfl (det_assign rfl) ?_
    refine JL_nil ?_
    refine JE_seq ?_
    refine JC_ret ?_
    refine JE_seq_ret ?_
    -- stop: out
    refine JE_out (.inl rfl) () (results2 Try.results21 (res_tmp rfl) (res_tmp rfl)) rfl (List.Perm.refl _) (fun _ _ => trivial)
  · exact absurd h1 h
set_option maxRecDepth 100000 in
set_option maxHeartbeats 1000000 in
theorem Lost_jo (a : Option Addr) (c : Nat) (l : List Ms) (hl : l.length ≤ 1000) (h : readE l = 0) : Cr Try.prog 21 [.slice a l.length c] (KSl a l.length c encM l) (fun q : Option Addr × Nat => .tuple #[.slice q.1 (lostL (srtL l)).length q.2, I 0]) (fun q => KSl q.1 (lostL (srtL l)).length q.2 encI (lostL (srtL l))) := by
  have hr := read_jo a c l hl h
  obtain ⟨hln, hV, _⟩ := read_of h
  have hts := srt_len l
  have htV : ∀ m ∈ srtL l, VMs m := fun m hm => hV m (srt_mem.1 hm)
  generalize srtL l = ts at hr hts htV
  have hbds := gaps_bd htV
  have hgl : (gapsL ts).length = ts.length := gapsF_len ts zM
  refine Cx_of Try.func21 rfl Try.ntmps21 rfl fun w0 M0 => ?_
  refine JC_seq ?_
  refine JC_region ?_
  refine JL_pd rfl (det_assign rfl) ?_
  refine JL_pd rfl (det_assign rfl) ?_
  refine JL_nil ?_
  refine JE_seq ?_
  refine JC_seq ?_
  refine JC_region ?_
  refine JL_pd rfl (det_move rfl) ?_
  refine JL_step rfl rfl rfl (jo_call rfl rfl Try.call58 rfl (hr)) fun x11 => ?_
  refine JL_pd rfl (det_move rfl) ?_
  refine JL_pd rfl (det_extract rfl rfl) ?_
  refine JL_pd rfl (det_extract rfl rfl) ?_
  refine JL_step rfl rfl rfl (jo_alloc0 Try.zeroValue101 rfl) fun b4 => ?_
  refine JL_step0 rfl rfl (jo_store rfl rfl rfl (by first | (simp only [splice_norm]; done) | (simp only [splice_norm]; rfl) | rfl) Try.sizeOf101 rfl rfl) fun _ => ?_
  refine JL_pd rfl (det_assign rfl) ?_
  refine JL_nil ?_
  refine JE_seq ?_
  refine JC_seq ?_
  refine JC_seq ?_
  refine JC_region ?_
  refine JL_pd rfl (det_move rfl) ?_
  refine JL_pd rfl (det_neq rfl rfl) ?_
  refine JL_nil ?_
  refine JE_seq ?_
  -- stop: cond
  refine JC_ifn rfl (fun h1 => ?_) (fun h1 => ?_)
  · exact absurd rfl h1
  refine JC_skip ?_
  refine JE_seq ?_
  refine JC_seq ?_
  refine JC_region ?_
  refine JL_step rfl rfl rfl (jo_alloc0 Try.zeroValue22 rfl) fun b6 => ?_
  refine JL_nil ?_
  refine JE_seq ?_
  refine JC_seq ?_
  refine JC_seq ?_
  refine JC_region ?_
  refine JL_pd rfl (det_fieldAddr rfl fo_101_0) ?_
  refine JL_dt rfl (det_loadK rfl Try.isAgg99 rfl) ?_
  refine JL_step rfl rfl rfl (jo_call rfl rfl Try.call59 rfl (gaps_j _ ts.length _)) fun x19 => ?_
  refine JL_nil ?_
  refine JE_seq ?_
  refine JC_block ?_
  -- stop: rangeFunc
  have hit := gaps_it ts x11.1 x11.2 x19 htV (by omega)
  refine JC_keep b4 noFp ?_
  refine JC_nil 3 1 ?_
  refine JC_rangeI (γ := Value × List Int) (β := Nat) rfl rfl rfl rfl Try.call86 hit (perm2 (bx b6 [.slice none 0 0]) (ow (.slice none 0 0) 3 1 0 [])) (fun w _ h => ⟨Knows.know (F := KBox x19 _) w h, Knows.know (F := KSl x11.1 ts.length x11.2 encM ts) w h⟩) (fun _ => rfl) ?_
    (fun p g => g.2 = p.flatMap gapR) (fun _ _ _ => False) (fun g => [bx b6 [g.1], ow g.1 3 1 g.2.length (g.2.flatMap encI)]) (.slice none 0 0, []) rfl rfl
    (fun x t => [(7, pt t), (6, pt b6)]) (fun x t => [bx t [I x.1.fr, I x.1.to_, I x.1.co]]) ?_ ?_ ?_ ?_
  · show ∀ p ∈ [20, 21], p < 35
    decide
  · intro l' x W K0 hK0
    refine JC_region ?_
    refine JL_step rfl rfl rfl (jo_alloc0 Try.zeroValue108 rfl) fun b7 => ?_
    refine JL_step0 rfl rfl (jo_store rfl rfl rfl (by first | (simp only [splice_norm]; done) | (simp only [splice_norm]; rfl) | rfl) Try.sizeOf108 rfl rfl) fun _ => ?_
    refine JL_nil ?_
    -- stop: end
    exact JE_asg (hK0 b7) (stsub_cons rfl (stsub_cons rfl stsub_nil)) (hsub_cons hsub_nil) (fun _ h => trivial)
  · rintro l' p x ⟨v, base⟩ t W K1 QX hbase hpx hK1 _
    dsimp only at hbase
    have hxm : x ∈ gapsL ts := hpx.subset (by simp)
    obtain ⟨hgb, _⟩ := hbds x hxm
    have hpl : p.length ≤ ts.length := by have := hpx.length_le; rw [List.length_append, List.length_singleton] at this; omega
    have hbl := lost_len p fun z hz => (hbds z (hpx.subset (by simp [hz]))).1
    rw [← hbase] at hbl
    have hRl := gapR_len hgb
    have hRn : (gapR x).length = (x.1.to_ + 1 - x.1.fr).toNat := rng_len _ _
    have hRg : ∀ k (hk : k < (gapR x).length), (gapR x)[k] = x.1.fr + k := fun k hk => rng_get hk
    have g1 := hgb.1
    have g2 := hgb.2.1
    have g3 := hgb.2.2.1
    have g4 := hgb.2.2.2.1
    generalize hR : gapR x = R at hRl hRn hRg
    refine JC_block ?_
    refine JC_seq ?_
    refine JC_region ?_
    refine JL_pd rfl (det_fieldAddr rfl fo_108_0) ?_
    refine JL_dt rfl (det_loadK rfl Try.isAgg3 rfl) ?_
    refine JL_pd rfl (det_assign rfl) ?_
    refine JL_nil ?_
    refine JE_seq ?_
    refine JC_block ?_
    -- stop: loop
    refine JC_know (R' := KTrue) (fun _ _ => trivial) ?_
    refine JC_loopF (γ := Nat × Value) (fun q => q.1 ≤ R.length) (fun q => [(8, I (x.1.fr + q.1))]) (fun q => [bx b6 [q.2], ow q.2 3 1 (base ++ R.take q.1).length ((base ++ R.take q.1).flatMap encI)]) (fun q => R.length - q.1) (0, v) (by simp) (stsub_consI rfl (by simp) stsub_nil) (ht_bx rfl (ht_ow (by simp) (by simp) ht_nil)) ?_
    rintro ⟨k, u⟩ hk K hK
    dsimp only [List.cons_append, List.nil_append] at hk ⊢
    have htl : (base ++ R.take k).length ≤ 100000 := by rw [List.length_append, List.length_take]; omega
    refine JC_seq ?_
    refine JC_seq ?_
    refine JC_region ?_
    refine JL_pd rfl (det_move rfl) ?_
    refine JL_pd rfl (det_fieldAddr rfl fo_108_1) ?_
    refine JL_dt rfl (det_loadK rfl Try.isAgg3 rfl) ?_
    refine JL_pd rfl (det_leq rfl rfl) ?_
    refine JL_nil ?_
    refine JE_seq ?_
    -- stop: cond
    refine JC_if rfl (fun h2 => ?_) (fun h2 => ?_)
    · have hk2 : k < R.length := by omega
      have hsn : base ++ R.take (k + 1) = base ++ R.take k ++ [x.1.fr + k] := by rw [take_snoc hk2, hRg k hk2, List.append_assoc]
      refine JC_skip ?_
      refine JE_seq ?_
      refine JC_seq ?_
      refine JC_block ?_
      refine JC_region ?_
      refine JL_dt rfl (det_loadK rfl Try.isAgg22 rfl) ?_
      refine JL_pd rfl (det_move rfl) ?_
      refine JL_step rfl rfl rfl (jo_buildSlice rfl (bsl_22_1_0 _)) fun b32 => ?_
      refine JL_step rfl rfl rfl (jo_append el_22 rfl rfl rfl rfl (by omega)) fun b33 => ?_
      refine JL_step0 rfl rfl (jo_store rfl rfl rfl (by first | (simp only [splice_norm]; done) | (simp only [splice_norm]; rfl) | rfl) Try.sizeOf22 rfl rfl) fun _ => ?_
      refine JL_nil ?_
      refine JE_block ?_
      refine JE_seq ?_
      refine JC_region ?_
      refine JL_pd rfl (det_move rfl) ?_
      refine JL_pd rfl (det_add rfl rfl ⟨by omega, by omega⟩) ?_
      refine JL_pd rfl (det_assign rfl) ?_
      refine JL_nil ?_
      -- stop: end
      refine JE_roundF hK (k + 1, .slice (some ⟨b33.1, 0, none⟩) ((base ++ R.take k).length + 1) b33.2) (by simp only; omega) (by simp only; omega) (stsub_consI rfl (by simp only; omega) stsub_nil) (ht_bx rfl (ht_ow (by simp only [hsn, List.length_append, List.length_cons, List.length_nil]) (by simp only; rw [hsn, List.flatMap_append (xs := base ++ R.take k)]; rfl) ht_nil))
    · obtain rfl : k = R.length := by omega
      rw [List.take_length]
      refine JC_exit ?_
      refine JE_seq_exit ?_
      refine JE_then_exit ?_
      refine JE_block_here ?_
      refine JE_block ?_
      -- stop: end
      refine JE_next (fun st' R' a' W' => hK1 (u, base ++ R) (by simp only; rw [List.flatMap_append, ← hbase, List.flatMap_singleton, hR]) st' R' a' W') (ht_sub (ht_bx rfl (ht_ow rfl rfl ht_nil)))
  · rintro ⟨v, base⟩ hbase
    dsimp only at hbase
    obtain rfl : base = lostL ts := hbase
    refine JE_block ?_
    refine JE_seq ?_
    refine JC_seq ?_
    refine JC_region ?_
    refine JL_dt rfl (det_loadK rfl Try.isAgg22 rfl) ?_
    refine JL_pd rfl (det_assign rfl) ?_
    refine JL_pd rfl (det_assign rfl) ?_
    refine JL_nil ?_
    refine JE_seq ?_
    refine JC_ret ?_
    -- stop: out
    refine JE_slice (enc := encI) (v := v) (lostL ts) noFp rfl rfl ?_
    rintro la lc rfl
    refine JE_out (.inl rfl) (la, lc) (results2 Try.results21 (res_tmp rfl) (res_tmp rfl)) rfl (List.Perm.refl _) (fun w h => h.1)
  · rintro cd p g _ h
    exact h.elim
end Go.Proofs.Ytjbmkdbgobmclaa

/- Walks of bill: Taken. -/
namespace Go.Proofs.Ytjbmkdbgobmclaa
open Go.RowKit Go.Shelf

def someG (g : Gp) (fr to_ : Int) : Int := min to_ g.to_ - max fr g.fr + 1
def takeF (fv : Gp → Int → Int) (fr to_ : Int) (z : Gp × Ms) : Int := (if someG z.1 fr to_ > 0 then fv z.1 (someG z.1 fr to_) else 0) + (if inI z.2.no fr to_ = true then z.2.coins else 0)
def takenV (fv : Gp → Int → Int) (ts : List Ms) (fr to_ : Int) : Int := ((gapsL ts).map (takeF fv fr to_)).sum
theorem sum_bd2 {α : Type} {f : α → Int} {n : Int} : ∀ (p : List α), (∀ z ∈ p, -n ≤ f z ∧ f z ≤ n) → -(n * p.length) ≤ (p.map f).sum ∧ (p.map f).sum ≤ n * p.length
  | [], _ => by simp
  | z :: p, h => by
    have h1 := h z (by simp)
    have h2 := sum_bd2 p fun z hz => h z (by simp [hz])
    simp only [List.map_cons, List.sum_cons, List.length_cons, Int.natCast_add, Int.natCast_one, Int.mul_add, Int.mul_one]
    omega
theorem little_bd {g : Gp} {s : Int} (h : gapBd g) (h1 : 0 < s) (h2 : s ≤ 10000) : -20000000 ≤ littleG g s ∧ littleG g s ≤ 20000000 := by
  unfold littleG manyG; unfold gapBd at h; omega
theorem much_bd {g : Gp} {s : Int} (h : gapBd g) (h1 : 0 < s) (h2 : s ≤ 10000) : -20000000 ≤ muchG g s ∧ muchG g s ≤ 20000000 := by
  unfold muchG manyG; unfold gapBd at h; omega
theorem some_bd {g : Gp} {fr to_ : Int} (h : gapBd g) (h1 : 1 ≤ fr) (h2 : to_ ≤ 1000) : someG g fr to_ ≤ 1000 := by
  unfold someG; unfold gapBd at h; omega
theorem take_bd {fv : Gp → Int → Int} (hfb : ∀ g s, gapBd g → 0 < s → s ≤ 10000 → -20000000 ≤ fv g s ∧ fv g s ≤ 20000000) {z : Gp × Ms} {fr to_ : Int} (h : gapBd z.1) (hm : VMs z.2) (h1 : 1 ≤ fr) (h2 : to_ ≤ 1000) : -30000000 ≤ takeF fv fr to_ z ∧ takeF fv fr to_ z ≤ 30000000 := by
  have hc0 := hm.c0
  have hc1 := hm.c1
  have hs := some_bd h h1 h2
  have hf := hfb z.1 (someG z.1 fr to_) h
  unfold takeF
  split <;> split <;> omega
set_option maxRecDepth 100000 in
set_option maxHeartbeats 1000000 in
theorem taken_j (F : Nat) (fv : Gp → Int → Int) (eF : ∀ args w, (callFunc F args).run Try.prog w = .ok (.enter F args) w) (hF : ∀ g s, gapBd g → 0 < s → s ≤ 10000 → Cv Try.prog F [.agg #[I g.fr, I g.to_, I g.co], I s] KTrue (I (fv g s))) (hfb : ∀ g s, gapBd g → 0 < s → s ≤ 10000 → -20000000 ≤ fv g s ∧ fv g s ≤ 20000000)
    (ta : Option Addr) (tc : Nat) (ts : List Ms) (htV : ∀ m ∈ ts, VMs m) (hl : ts.length ≤ 30) (fr to_ : Int) (h1 : 1 ≤ fr) (h2 : fr ≤ to_) (h3 : to_ ≤ 1000) :
    Cv Try.prog 61 [.agg #[.slice ta ts.length tc], I fr, I to_, .agg #[.func (.func F) #[] #[]]] (KSl ta ts.length tc encM ts) (I (takenV fv ts fr to_)) := by
  have hbds := gaps_bd htV
  have hgl : (gapsL ts).length = ts.length := gapsF_len ts zM
  refine Cx_of Try.func61 rfl Try.ntmps61 rfl fun w0 M0 => ?_
  refine JC_seq ?_
  refine JC_region ?_
  refine JL_step rfl rfl rfl (jo_box rfl rfl) fun b4 => ?_
  refine JL_step rfl rfl rfl (jo_box rfl rfl) fun b5 => ?_
  refine JL_step rfl rfl rfl (jo_box rfl rfl) fun b6 => ?_
  refine JL_step rfl rfl rfl (jo_box rfl rfl) fun b7 => ?_
  refine JL_pd rfl (det_assign rfl) ?_
  refine JL_nil ?_
  refine JE_seq ?_
  refine JC_seq ?_
  refine JC_region ?_
  refine JL_step rfl rfl rfl (jo_alloc0 Try.zeroValue3 rfl) fun b9 => ?_
  refine JL_step0 rfl rfl (jo_store rfl rfl rfl (by first | (simp only [splice_norm]; done) | (simp only [splice_norm]; rfl) | rfl) Try.sizeOf3 rfl rfl) fun _ => ?_
  refine JL_nil ?_
  refine JE_seq ?_
  refine JC_seq ?_
  refine JC_seq ?_
  refine JC_region ?_
  refine JL_pd rfl (det_fieldAddr rfl fo_101_0) ?_
  refine JL_dt rfl (det_loadK rfl Try.isAgg99 rfl) ?_
  refine JL_step rfl rfl rfl (jo_call rfl rfl Try.call59 rfl (gaps_j _ ts.length _)) fun x15 => ?_
  refine JL_nil ?_
  refine JE_seq ?_
  refine JC_block ?_
  -- stop: rangeFunc
  have hit := gaps_it ts ta tc x15 htV (by omega)
  refine JC_keep b4 noFp ?_
  refine JC_keep b5 noFp ?_
  refine JC_keep b6 noFp ?_
  refine JC_keep b7 noFp ?_
  refine JC_rangeI (γ := Int) (β := Nat × Nat) rfl rfl rfl rfl Try.call86 hit (perm1 (bx b9 [I 0])) (fun w _ h => ⟨Knows.know (F := KBox x15 _) w h, Knows.know (F := KSl ta ts.length tc encM ts) w h⟩) (fun _ => rfl) ?_
    (fun p g => g = (p.map (takeF fv fr to_)).sum) (fun _ _ _ => False) (fun g => [bx b9 [I g]]) 0 rfl rfl
    (fun x t => [(10, pt t.1), (11, pt t.2), (9, pt b9), (5, pt b5), (6, pt b6), (7, pt b7)]) (fun x t => [bx t.1 [I x.1.fr, I x.1.to_, I x.1.co], bx t.2 [I x.2.no, I x.2.coins, I x.2.total]]) ?_ ?_ ?_ ?_
  · show ∀ p ∈ [16, 17], p < 48
    decide
  · intro l' x W K0 hK0
    refine JC_seq ?_
    refine JC_region ?_
    refine JL_step rfl rfl rfl (jo_alloc0 Try.zeroValue108 rfl) fun b10 => ?_
    refine JL_step0 rfl rfl (jo_store rfl rfl rfl (by first | (simp only [splice_norm]; done) | (simp only [splice_norm]; rfl) | rfl) Try.sizeOf108 rfl rfl) fun _ => ?_
    refine JL_nil ?_
    refine JE_seq ?_
    refine JC_region ?_
    refine JL_step rfl rfl rfl (jo_alloc0 Try.zeroValue94 rfl) fun b11 => ?_
    refine JL_step0 rfl rfl (jo_store rfl rfl rfl (by first | (simp only [splice_norm]; done) | (simp only [splice_norm]; rfl) | rfl) Try.sizeOf94 rfl rfl) fun _ => ?_
    refine JL_nil ?_
    -- stop: end
    exact JE_asg (hK0 (b10, b11)) (stsub_cons rfl (stsub_cons rfl (stsub_cons rfl (stsub_cons rfl (stsub_cons rfl (stsub_cons rfl stsub_nil)))))) (hsub_cons (hsub_cons hsub_nil)) (fun _ h => trivial)
  · rintro l' p x g ⟨t10, t11⟩ W K1 QX hg hpx hK1 _
    have hxm : x ∈ gapsL ts := hpx.subset (by simp)
    obtain ⟨hgb, hvm⟩ := hbds x hxm
    have hpl : p.length ≤ ts.length := by have := hpx.length_le; rw [List.length_append, List.length_singleton] at this; omega
    have hbl := sum_bd2 (f := takeF fv fr to_) (n := 30000000) p fun z hz => have hz := hbds z (hpx.subset (by simp [hz])); take_bd hfb hz.1 hz.2 h1 h3
    rw [← hg] at hbl
    have hsn : (p ++ [x]).map (takeF fv fr to_) = p.map (takeF fv fr to_) ++ [takeF fv fr to_ x] := by simp
    have hsum : ((p ++ [x]).map (takeF fv fr to_)).sum = g + takeF fv fr to_ x := by rw [hsn, List.sum_append, ← hg]; simp
    have hc0 := hvm.c0
    have hc1 := hvm.c1
    have hsb := some_bd hgb h1 h3
    have g1 := hgb.1
    have g2 := hgb.2.1
    have g3 := hgb.2.2.1
    have g4 := hgb.2.2.2.1
    have hlv := fun b21 : Nat => least_v b21 to_ x.1.to_
    refine JC_block ?_
    refine JC_seq ?_
    refine JC_seq ?_
    refine JC_draw [] (by kernel_rfl) ?_
    refine JA_dt (i := 0) rfl (by kernel_rfl) (by kernel_rfl) rfl rfl (det_loadK rfl Try.isAgg3 rfl) ?_
    refine JA_pd (i := 1) rfl (by kernel_rfl) rfl rfl (det_fieldAddr rfl fo_108_1) ?_
    refine JA_dt (i := 2) rfl (by kernel_rfl) (by kernel_rfl) rfl rfl (det_loadK rfl Try.isAgg3 rfl) ?_
    refine JA_dt (i := 5) rfl (by kernel_rfl) (by kernel_rfl) rfl rfl (det_loadK rfl Try.isAgg3 rfl) ?_
    refine JA_pd (i := 6) rfl (by kernel_rfl) rfl rfl (det_fieldAddr rfl fo_108_0) ?_
    refine JA_dt (i := 7) rfl (by kernel_rfl) (by kernel_rfl) rfl rfl (det_loadK rfl Try.isAgg3 rfl) ?_
    refine JA_pd (i := 8) rfl (by kernel_rfl) rfl rfl (det_max rfl rfl) ?_
    refine JA_one (i := 3) (by kernel_rfl) rfl rfl (jo_buildSlice rfl (bsl_22_2_0_1 _ _)) (fun _ => ⟨hsub_drop 1 rfl, fun _ h => h⟩) fun b21 => ?_
    refine JA_litF (enc := encI) b21 2 [to_, x.1.to_] rfl rfl rfl (by decide) ?_
    refine JA_one (i := 4) (by kernel_rfl) rfl rfl (jo_callv rfl rfl Try.call88 rfl (hlv b21)) (fun _ => ⟨hsub_refl, fun _ h => h⟩) fun _ => ?_
    refine JA_pd (i := 9) rfl (by kernel_rfl) rfl rfl (det_sub rfl rfl ⟨by omega, by omega⟩) ?_
    refine JA_pd (i := 10) rfl (by kernel_rfl) rfl rfl (det_add rfl rfl ⟨by omega, by omega⟩) ?_
    refine JA_pd (i := 11) rfl (by kernel_rfl) rfl rfl (det_assign rfl) ?_
    refine JA_done (by kernel_rfl) ?_
    refine JE_seq ?_
    refine JC_seq ?_
    refine JC_region ?_
    refine JL_pd rfl (det_move rfl) ?_
    refine JL_pd rfl (det_gtr rfl rfl) ?_
    refine JL_nil ?_
    refine JE_seq ?_
    -- stop: cond
    have hsg : min to_ x.1.to_ - max fr x.1.fr + 1 = someG x.1 fr to_ := rfl
    simp only [hsg]
    generalize hS : someG x.1 fr to_ = S at hsb hsum
    refine JC_if rfl (fun h4 => ?_) (fun h4 => ?_)
    · have hfx := hF x.1 S hgb h4 (by omega)
      have hfb2 := hfb x.1 S hgb h4 (by omega)
      refine JC_draw [7] (by kernel_rfl) ?_
      refine JA_dt (i := 0) rfl (by kernel_rfl) (by kernel_rfl) rfl rfl (det_loadK rfl Try.isAgg3 rfl) ?_
      refine JA_pd (i := 1) rfl (by kernel_rfl) rfl rfl (det_fieldAddr rfl fo_114_0) ?_
      refine JA_dt (i := 2) rfl (by kernel_rfl) (by kernel_rfl) rfl rfl (det_loadK rfl Try.isAgg111 rfl) ?_
      refine JA_dt (i := 3) rfl (by kernel_rfl) (by kernel_rfl) rfl rfl (det_loadKA rfl Try.isAgg108 Try.sizeOf108 rfl rfl) ?_
      refine JA_pd (i := 4) rfl (by kernel_rfl) rfl rfl (det_move rfl) ?_
      -- stop: op  5 t36 := (call (Call (value t33) (t34 t35) (108 3)))   <2 3 4>   123
      refine JA_one (i := 5) (by kernel_rfl) rfl rfl (jo_callv rfl rfl eF rfl (hfx)) (fun _ => ⟨hsub_refl, fun _ h => h⟩) fun _ => ?_
      refine JA_pd (i := 6) rfl (by kernel_rfl) rfl rfl (det_add rfl rfl ⟨by omega, by omega⟩) ?_
      refine JA_tail (i := 7) (by kernel_rfl) rfl rfl rfl rfl (jo_store rfl rfl rfl (by first | (simp only [splice_norm]; done) | (simp only [splice_norm]; rfl) | rfl) Try.sizeOf3 rfl rfl) fun _ => ?_
      refine JT_done (by kernel_rfl) ?_
      refine JE_seq ?_
      refine JC_seq ?_
      refine JC_region ?_
      refine JL_pd rfl (det_fieldAddr rfl fo_94_0) ?_
      refine JL_dt rfl (det_loadK rfl Try.isAgg3 rfl) ?_
      refine JL_dt rfl (det_loadK rfl Try.isAgg3 rfl) ?_
      refine JL_dt rfl (det_loadK rfl Try.isAgg3 rfl) ?_
      refine JL_step rfl rfl rfl (jo_callv rfl rfl Try.call56 rfl (within_j x.2.no fr to_)) fun _ => ?_
      refine JL_nil ?_
      refine JE_seq ?_
      -- stop: cond
      refine JC_cond rfl (fun h5 => ?_) (fun h5 => ?_)
      · have htf : takeF fv fr to_ x = fv x.1 S + x.2.coins := by unfold takeF; rw [hS, if_pos h4, if_pos h5]
        refine JC_region ?_
        refine JL_dt rfl (det_loadK rfl Try.isAgg3 rfl) ?_
        refine JL_pd rfl (det_fieldAddr rfl fo_94_1) ?_
        refine JL_dt rfl (det_loadK rfl Try.isAgg3 rfl) ?_
        refine JL_pd rfl (det_add rfl rfl ⟨by omega, by omega⟩) ?_
        refine JL_step0 rfl rfl (jo_store rfl rfl rfl (by first | (simp only [splice_norm]; done) | (simp only [splice_norm]; rfl) | rfl) Try.sizeOf3 rfl rfl) fun _ => ?_
        refine JL_nil ?_
        refine JE_block ?_
        -- stop: end
        refine JE_next (fun st' R' a' W' => hK1 (g + fv x.1 S + x.2.coins) (by rw [hsum, htf]; omega) st' R' a' W') (hsub_cons hsub_nil)
      · have htf : takeF fv fr to_ x = fv x.1 S := by unfold takeF; rw [hS, if_pos h4, if_neg (by rw [h5]; decide)]; omega
        refine JC_skip ?_
        refine JE_block ?_
        -- stop: end
        refine JE_next (fun st' R' a' W' => hK1 (g + fv x.1 S) (by rw [hsum, htf]) st' R' a' W') (hsub_cons hsub_nil)
    · refine JC_skip ?_
      refine JE_seq ?_
      refine JC_seq ?_
      refine JC_region ?_
      refine JL_pd rfl (det_fieldAddr rfl fo_94_0) ?_
      refine JL_dt rfl (det_loadK rfl Try.isAgg3 rfl) ?_
      refine JL_dt rfl (det_loadK rfl Try.isAgg3 rfl) ?_
      refine JL_dt rfl (det_loadK rfl Try.isAgg3 rfl) ?_
      refine JL_step rfl rfl rfl (jo_callv rfl rfl Try.call56 rfl (within_j x.2.no fr to_)) fun _ => ?_
      refine JL_nil ?_
      refine JE_seq ?_
      -- stop: cond
      dsimp only [List.cons_append, List.nil_append]
      refine JC_cond rfl (fun h5 => ?_) (fun h5 => ?_)
      · have htf : takeF fv fr to_ x = x.2.coins := by unfold takeF; rw [hS, if_neg h4, if_pos h5]; omega
        refine JC_region ?_
        refine JL_dt rfl (det_loadK rfl Try.isAgg3 rfl) ?_
        refine JL_pd rfl (det_fieldAddr rfl fo_94_1) ?_
        refine JL_dt rfl (det_loadK rfl Try.isAgg3 rfl) ?_
        refine JL_pd rfl (det_add rfl rfl ⟨by omega, by omega⟩) ?_
        refine JL_step0 rfl rfl (jo_store rfl rfl rfl (by first | (simp only [splice_norm]; done) | (simp only [splice_norm]; rfl) | rfl) Try.sizeOf3 rfl rfl) fun _ => ?_
        refine JL_nil ?_
        refine JE_block ?_
        -- stop: end
        refine JE_next (fun st' R' a' W' => hK1 (g + x.2.coins) (by rw [hsum, htf]) st' R' a' W') (hsub_cons hsub_nil)
      · have htf : takeF fv fr to_ x = 0 := by unfold takeF; rw [hS, if_neg h4, if_neg (by rw [h5]; decide)]; omega
        refine JC_skip ?_
        refine JE_block ?_
        -- stop: end
        refine JE_next (fun st' R' a' W' => hK1 g (by rw [hsum, htf]; omega) st' R' a' W') (hsub_cons hsub_nil)
  · rintro g hg
    obtain rfl : g = takenV fv ts fr to_ := hg
    refine JE_block ?_
    refine JE_seq ?_
    refine JC_seq ?_
    refine JC_region ?_
    refine JL_dt rfl (det_loadK rfl Try.isAgg3 rfl) ?_
    refine JL_pd rfl (det_assign rfl) ?_
    refine JL_nil ?_
    refine JE_seq ?_
    refine JC_ret ?_
    -- stop: out
    refine JE_out (.inl rfl) () (results1 Try.results61 (res_tmp rfl)) rfl (List.Perm.refl _) (fun _ _ => trivial)
  · rintro cd p g _ h
    exact h.elim
end Go.Proofs.Ytjbmkdbgobmclaa

/- Walks of bill: Taken. -/
namespace Go.Proofs.Ytjbmkdbgobmclaa
open Go.RowKit Go.Shelf

def lastN (ts : List Ms) : Int := if h : 0 < ts.length then ts[ts.length - 1].no else 0
theorem lastN_bd {ts : List Ms} (h : ∀ m ∈ ts, VMs m) : 0 ≤ lastN ts ∧ lastN ts ≤ 60 := by
  unfold lastN
  split
  · rename_i h0
    have hv := h _ (List.getElem_mem (show ts.length - 1 < ts.length by omega))
    have := hv.n0; have := hv.n1
    omega
  · decide
theorem lastN_j (a : Option Addr) (c : Nat) (ts : List Ms) (hl : ts.length ≤ 1000) : Cv Try.prog 60 [.slice a ts.length c] (KSl a ts.length c encM ts) (I (lastN ts)) := last_j a c ts hl
/-- The error of an amount taken. -/
def takenE (l : List Ms) (fr to_ : Int) : Int := if readE l ≠ 0 then readE l else if inI fr 1 to_ = false ∨ to_ > lastN (srtL l) then 2 else 0
theorem takenE_of {l : List Ms} {fr to_ : Int} (h : takenE l fr to_ = 0) : readE l = 0 ∧ 1 ≤ fr ∧ fr ≤ to_ ∧ to_ ≤ lastN (srtL l) := by
  unfold takenE at h
  split at h
  · rename_i h1; exact absurd h h1
  · rename_i h1
    split at h
    · omega
    · rename_i h2
      have h3 : inI fr 1 to_ = true := Decidable.byContradiction fun e => h2 (.inl (Bool.eq_false_iff.2 e))
      have h4 := inI_iff.1 h3
      exact ⟨Classical.byContradiction h1, h4.1, h4.2, by omega⟩
theorem takenE_ne {l : List Ms} {fr to_ : Int} (h : readE l = 0) (h2 : ¬ (inI fr 1 to_ = true ∧ to_ ≤ lastN (srtL l))) : takenE l fr to_ = 2 := by
  unfold takenE
  rw [if_neg (by rw [h]; decide), if_pos]
  by_cases h3 : inI fr 1 to_ = true
  · exact .inr (Int.not_le.1 fun h4 => h2 ⟨h3, h4⟩)
  · exact .inl (Bool.eq_false_iff.2 h3)
set_option maxRecDepth 100000 in
set_option maxHeartbeats 1000000 in
theorem Taken_je (a : Option Addr) (c : Nat) (l : List Ms) (hl : l.length ≤ 1000) (fr to_ : Int) (hE : takenE l fr to_ ≠ 0) : Cv Try.prog 23 [.slice a l.length c, I fr, I to_] (KSl a l.length c encM l) (.tuple #[.agg #[I 0, I 0], I (takenE l fr to_)]) := by
  by_cases h : readE l = 0
  · have hn : ¬ (inI fr 1 to_ = true ∧ to_ ≤ lastN (srtL l)) := fun hq => hE (by unfold takenE; rw [if_neg (by rw [h]; decide), if_neg (by rintro (e | e); (rw [hq.1] at e; cases e); omega)])
    rw [takenE_ne h hn]
    have hr := read_jo a c l hl h
    have hts := srt_len l
    have hls := fun a c => lastN_j a c (srtL l) (by omega)
    generalize srtL l = ts at hr hts hls hn
    refine Cx_of Try.func23 rfl Try.ntmps23 rfl fun w0 M0 => ?_
    refine JC_seq ?_
    refine JC_region ?_
    refine JL_step rfl rfl rfl (jo_alloc0 Try.zeroValue36 rfl) fun b6 => ?_
    refine JL_pd rfl (det_assign rfl) ?_
    refine JL_nil ?_
    refine JE_seq ?_
    refine JC_seq ?_
    refine JC_region ?_
    refine JL_pd rfl (det_move rfl) ?_
    refine JL_step rfl rfl rfl (jo_call rfl rfl Try.call58 rfl (hr)) fun x12 => ?_
    refine JL_pd rfl (det_move rfl) ?_
    refine JL_pd rfl (det_extract rfl rfl) ?_
    refine JL_pd rfl (det_extract rfl rfl) ?_
    refine JL_step rfl rfl rfl (jo_alloc0 Try.zeroValue101 rfl) fun b8 => ?_
    refine JL_step0 rfl rfl (jo_store rfl rfl rfl (by first | (simp only [splice_norm]; done) | (simp only [splice_norm]; rfl) | rfl) Try.sizeOf101 rfl rfl) fun _ => ?_
    refine JL_pd rfl (det_assign rfl) ?_
    refine JL_nil ?_
    refine JE_seq ?_
    refine JC_seq ?_
    refine JC_block ?_
    refine JC_seq ?_
    refine JC_region ?_
    refine JL_pd rfl (det_move rfl) ?_
    refine JL_pd rfl (det_neq rfl rfl) ?_
    refine JL_pd rfl (det_assign rfl) ?_
    refine JL_nil ?_
    refine JE_seq ?_
    -- stop: cond
    refine JC_ifn rfl (fun h1 => ?_) (fun h1 => ?_)
    · exact absurd rfl h1
    refine JC_seq ?_
    refine JC_region ?_
    refine JL_pd rfl (det_move rfl) ?_
    refine JL_pd rfl (det_move rfl) ?_
    refine JL_step rfl rfl rfl (jo_callv rfl rfl Try.call56 rfl (within_j fr 1 to_)) fun _ => ?_
    refine JL_pd rfl (det_not rfl) ?_
    refine JL_pd rfl (det_move rfl) ?_
    -- stop: guard 4
    by_cases hw : inI fr 1 to_ = true
    · have hto : ¬ to_ ≤ lastN ts := fun h2 => hn ⟨hw, h2⟩
      refine JL_is (d0 := 25) false rfl (by rw [hw]; rfl) (fun g1 => ?_)
      refine JL_guard rfl rfl g1 ?_
      refine JL_pd rfl (det_move rfl) ?_
      refine JL_guard rfl rfl g1 ?_
      refine JL_pd rfl (det_fieldAddr rfl fo_101_0) ?_
      refine JL_guard rfl rfl g1 ?_
      refine JL_dt rfl (det_loadK rfl Try.isAgg99 rfl) ?_
      refine JL_guard rfl rfl g1 ?_
      refine JL_step rfl rfl rfl (jo_callv rfl rfl Try.call60 rfl (hls x12.1 x12.2)) fun _ => ?_
      refine JL_guard rfl rfl g1 ?_
      refine JL_pd rfl (det_gtr rfl rfl) ?_
      refine JL_pd rfl (det_pick_f rfl g1 rfl) ?_
      refine JL_pd rfl (det_assign rfl) ?_
      refine JL_nil ?_
      refine JE_seq ?_
      -- stop: cond
      refine JC_if rfl (fun h2 => ?_) (fun h2 => ?_)
      · refine JC_seq ?_
        refine JC_region ?_
        refine JL_pd rfl (det_build rfl (bld_36)) ?_
        refine JL_step0 rfl rfl (jo_store rfl rfl rfl (by first | (simp only [splice_norm]; done) | (simp only [splice_norm]; rfl) | rfl) Try.sizeOf36 rfl rfl) fun _ => ?_
        refine JL_pd rfl (det_assign rfl) ?_
        refine JL_nil ?_
        refine JE_seq ?_
        refine JC_ret ?_
        refine JE_block_ret ?_
        refine JE_seq_ret ?_
        -- stop: out
        refine JE_out (.inl rfl) () (results2 Try.results23 (res_box rfl Try.isAgg36 Try.sizeOf36 rfl) (res_tmp rfl)) rfl (List.Perm.refl _) (fun _ _ => trivial)
      · exact absurd h2 (by omega)
    · rw [Bool.not_eq_true] at hw
      refine JL_is (d0 := 25) true rfl (by rw [hw]; rfl) (fun g1 => ?_)
      refine JL_skip rfl rfl g1 rfl ?_
      refine JL_skip rfl rfl g1 rfl ?_
      refine JL_skip rfl rfl g1 rfl ?_
      refine JL_skip rfl rfl g1 rfl ?_
      refine JL_skip rfl rfl g1 rfl ?_
      refine JL_pd rfl (det_pick_t rfl g1 rfl) ?_
      refine JL_pd rfl (det_assign rfl) ?_
      refine JL_nil ?_
      refine JE_seq ?_
      -- stop: cond
      refine JC_cond rfl (fun h2 => ?_) (fun h2 => ?_)
      · refine JC_seq ?_
        refine JC_region ?_
        refine JL_pd rfl (det_build rfl (bld_36)) ?_
        refine JL_step0 rfl rfl (jo_store rfl rfl rfl (by first | (simp only [splice_norm]; done) | (simp only [splice_norm]; rfl) | rfl) Try.sizeOf36 rfl rfl) fun _ => ?_
        refine JL_pd rfl (det_assign rfl) ?_
        refine JL_nil ?_
        refine JE_seq ?_
        refine JC_ret ?_
        refine JE_block_ret ?_
        refine JE_seq_ret ?_
        -- stop: out
        refine JE_out (.inl rfl) () (results2 Try.results23 (res_box rfl Try.isAgg36 Try.sizeOf36 rfl) (res_tmp rfl)) rfl (List.Perm.refl _) (fun _ _ => trivial)
      · cases h2
  · have he : takenE l fr to_ = readE l := if_pos h
    rw [he]
    have hr := read_je a c l hl h
    generalize readE l = E at h hr
    refine Cx_of Try.func23 rfl Try.ntmps23 rfl fun w0 M0 => ?_
    refine JC_seq ?_
    refine JC_region ?_
    refine JL_step rfl rfl rfl (jo_alloc0 Try.zeroValue36 rfl) fun b6 => ?_
    refine JL_pd rfl (det_assign rfl) ?_
    refine JL_nil ?_
    refine JE_seq ?_
    refine JC_seq ?_
    refine JC_region ?_
    refine JL_pd rfl (det_move rfl) ?_
    refine JL_step rfl rfl rfl (jo_callv rfl rfl Try.call58 rfl (hr)) fun _ => ?_
    refine JL_pd rfl (det_move rfl) ?_
    refine JL_pd rfl (det_extract rfl rfl) ?_
    refine JL_pd rfl (det_extract rfl rfl) ?_
    refine JL_step rfl rfl rfl (jo_alloc0 Try.zeroValue101 rfl) fun b8 => ?_
    refine JL_step0 rfl rfl (jo_store rfl rfl rfl (by first | (simp only [splice_norm]; done) | (simp only [splice_norm]; rfl) | rfl) Try.sizeOf101 rfl rfl) fun _ => ?_
    refine JL_pd rfl (det_assign rfl) ?_
    refine JL_nil ?_
    refine JE_seq ?_
    refine JC_seq ?_
    refine JC_block ?_
    refine JC_seq ?_
    refine JC_region ?_
    refine JL_pd rfl (det_move rfl) ?_
    refine JL_pd rfl (det_neq rfl rfl) ?_
    refine JL_pd rfl (det_assign rfl) ?_
    refine JL_nil ?_
    refine JE_seq ?_
    -- stop: cond
    refine JC_ifn rfl (fun h1 => ?_) (fun h1 => ?_)
    · refine JC_seq ?_
      refine JC_region ?_
      refine JL_pd rfl (det_build rfl (bld_36)) ?_
      refine JL_pd rfl (det_move rfl) ?_
      refine JL_step0 rfl rfl (jo_store rfl rfl rfl (by first | (simp only [splice_norm]; done) | (simp only [splice_norm]; rfl) | rfl) Try.sizeOf36 rfl rfl) fun _ => ?_
      refine JL_pd rfl (det_assign rfl) ?_
      refine JL_nil ?_
      refine JE_seq ?_
      refine JC_ret ?_
      refine JE_block_ret ?_
      refine JE_seq_ret ?_
      -- stop: out
      refine JE_out (.inl rfl) () (results2 Try.results23 (res_box rfl Try.isAgg36 Try.sizeOf36 rfl) (res_tmp rfl)) rfl (List.Perm.refl _) (fun _ _ => trivial)
    · exact absurd h1 h
set_option maxRecDepth 100000 in
set_option maxHeartbeats 1000000 in
theorem Taken_jo (a : Option Addr) (c : Nat) (l : List Ms) (hl : l.length ≤ 1000) (fr to_ : Int) (hE : takenE l fr to_ = 0) : Cv Try.prog 23 [.slice a l.length c, I fr, I to_] (KSl a l.length c encM l) (.tuple #[.agg #[I (takenV littleG (srtL l) fr to_), I (takenV muchG (srtL l) fr to_)], I 0]) := by
  obtain ⟨h, e1, e2, e3⟩ := takenE_of hE
  have hr := read_jo a c l hl h
  have hts := srt_len l
  obtain ⟨hln, hV, _⟩ := read_of h
  have htV : ∀ m ∈ srtL l, VMs m := fun m hm => hV m (srt_mem.1 hm)
  have hls := fun a c => lastN_j a c (srtL l) (by omega)
  have hlb := lastN_bd htV
  have htl := fun ta tc => taken_j 62 littleG Try.call62 (fun g s h h1 h2 => little_j g s h (by omega)) (fun g s h h1 h2 => little_bd h h1 h2) ta tc (srtL l) htV (by omega) fr to_ e1 e2 (by omega)
  have htm := fun ta tc => taken_j 63 muchG Try.call63 (fun g s h h1 h2 => much_j g s h (by omega)) (fun g s h h1 h2 => much_bd h h1 h2) ta tc (srtL l) htV (by omega) fr to_ e1 e2 (by omega)
  generalize srtL l = ts at hr hts hls e3 htl htm hlb htV
  refine Cx_of Try.func23 rfl Try.ntmps23 rfl fun w0 M0 => ?_
  refine JC_seq ?_
  refine JC_region ?_
  refine JL_step rfl rfl rfl (jo_alloc0 Try.zeroValue36 rfl) fun b6 => ?_
  refine JL_pd rfl (det_assign rfl) ?_
  refine JL_nil ?_
  refine JE_seq ?_
  refine JC_seq ?_
  refine JC_region ?_
  refine JL_pd rfl (det_move rfl) ?_
  refine JL_step rfl rfl rfl (jo_call rfl rfl Try.call58 rfl (hr)) fun x12 => ?_
  refine JL_pd rfl (det_move rfl) ?_
  refine JL_pd rfl (det_extract rfl rfl) ?_
  refine JL_pd rfl (det_extract rfl rfl) ?_
  refine JL_step rfl rfl rfl (jo_alloc0 Try.zeroValue101 rfl) fun b8 => ?_
  refine JL_step0 rfl rfl (jo_store rfl rfl rfl (by first | (simp only [splice_norm]; done) | (simp only [splice_norm]; rfl) | rfl) Try.sizeOf101 rfl rfl) fun _ => ?_
  refine JL_pd rfl (det_assign rfl) ?_
  refine JL_nil ?_
  refine JE_seq ?_
  refine JC_seq ?_
  refine JC_block ?_
  refine JC_seq ?_
  refine JC_region ?_
  refine JL_pd rfl (det_move rfl) ?_
  refine JL_pd rfl (det_neq rfl rfl) ?_
  refine JL_pd rfl (det_assign rfl) ?_
  refine JL_nil ?_
  refine JE_seq ?_
  -- stop: cond
  refine JC_ifn rfl (fun h1 => ?_) (fun h1 => ?_)
  · exact absurd rfl h1
  refine JC_seq ?_
  refine JC_region ?_
  refine JL_pd rfl (det_move rfl) ?_
  refine JL_pd rfl (det_move rfl) ?_
  refine JL_step rfl rfl rfl (jo_callv rfl rfl Try.call56 rfl (within_j fr 1 to_)) fun _ => ?_
  refine JL_pd rfl (det_not rfl) ?_
  refine JL_pd rfl (det_move rfl) ?_
  -- stop: guard 4
  have hw : inI fr 1 to_ = true := inI_iff.2 ⟨e1, e2⟩
  refine JL_is (d0 := 25) false rfl (by rw [hw]; rfl) (fun g1 => ?_)
  refine JL_guard rfl rfl g1 ?_
  refine JL_pd rfl (det_move rfl) ?_
  refine JL_guard rfl rfl g1 ?_
  refine JL_pd rfl (det_fieldAddr rfl fo_101_0) ?_
  refine JL_guard rfl rfl g1 ?_
  refine JL_dt rfl (det_loadK rfl Try.isAgg99 rfl) ?_
  refine JL_guard rfl rfl g1 ?_
  refine JL_step rfl rfl rfl (jo_callv rfl rfl Try.call60 rfl (hls x12.1 x12.2)) fun _ => ?_
  refine JL_guard rfl rfl g1 ?_
  refine JL_pd rfl (det_gtr rfl rfl) ?_
  refine JL_pd rfl (det_pick_f rfl g1 rfl) ?_
  refine JL_pd rfl (det_assign rfl) ?_
  refine JL_nil ?_
  refine JE_seq ?_
  -- stop: cond
  refine JC_if rfl (fun h2 => ?_) (fun h2 => ?_)
  · exact absurd h2 (by omega)
  refine JC_skip ?_
  refine JE_block ?_
  refine JE_seq ?_
  refine JC_seq ?_
  refine JC_draw [11] (by kernel_rfl) ?_
  refine JA_dt (i := 0) rfl (by kernel_rfl) (by kernel_rfl) rfl rfl (det_loadKA rfl Try.isAgg101 Try.sizeOf101 rfl rfl) ?_
  refine JA_pd (i := 1) rfl (by kernel_rfl) rfl rfl (det_move rfl) ?_
  refine JA_pd (i := 2) rfl (by kernel_rfl) rfl rfl (det_move rfl) ?_
  refine JA_pd (i := 3) rfl (by kernel_rfl) rfl rfl (det_build rfl (bld_114_0 _ _ _)) ?_
  refine JA_dt (i := 5) rfl (by kernel_rfl) (by kernel_rfl) rfl rfl (det_loadKA rfl Try.isAgg101 Try.sizeOf101 rfl rfl) ?_
  refine JA_pd (i := 6) rfl (by kernel_rfl) rfl rfl (det_move rfl) ?_
  refine JA_pd (i := 7) rfl (by kernel_rfl) rfl rfl (det_move rfl) ?_
  refine JA_pd (i := 8) rfl (by kernel_rfl) rfl rfl (det_build rfl (bld_114_0 _ _ _)) ?_
  -- stop: op  4 t37 := (call (Call (value f61) (t33 t34 t35 t36) (101 3 3 114)))   <0 1 2 3>   141
  refine JA_one (i := 4) (by kernel_rfl) rfl rfl (jo_callv rfl rfl Try.call61 rfl (htl x12.1 x12.2)) (fun _ => ⟨hsub_refl, fun _ h => h⟩) fun _ => ?_
  -- stop: op  9 t42 := (call (Call (value f61) (t38 t39 t40 t41) (101 3 3 114)))   <5 6 7 8 4>   141
  refine JA_one (i := 9) (by kernel_rfl) rfl rfl (jo_callv rfl rfl Try.call61 rfl (htm x12.1 x12.2)) (fun _ => ⟨hsub_refl, fun _ h => h⟩) fun _ => ?_
  refine JA_pd (i := 10) rfl (by kernel_rfl) rfl rfl (det_build rfl (bld_36_0_1 _ _)) ?_
  refine JA_tail (i := 11) (by kernel_rfl) rfl rfl rfl rfl (jo_store rfl rfl rfl (by first | (simp only [splice_norm]; done) | (simp only [splice_norm]; rfl) | rfl) Try.sizeOf36 rfl rfl) fun _ => ?_
  refine JT_pd (i := 12) rfl (by kernel_rfl) rfl rfl (det_assign rfl) ?_
  refine JT_done (by kernel_rfl) ?_
  refine JE_seq ?_
  refine JC_ret ?_
  -- stop: out
  refine JE_out (.inl rfl) () (results2 Try.results23 (res_box rfl Try.isAgg36 Try.sizeOf36 rfl) (res_tmp rfl)) rfl (List.Perm.refl _) (fun _ _ => trivial)
end Go.Proofs.Ytjbmkdbgobmclaa

/- The statements about bill: the document's first examples. -/
namespace Go.Proofs.Ytjbmkdbgobmclaa
open Go.RowKit Go.Shelf

set_option maxRecDepth 100000 in
theorem ints_j (a : Option Addr) (cap : Nat) (xs : List Int) (b : Option Addr) (cb : Nat) (ys : List Int) : Cv Try.prog 25 [.slice a xs.length cap, .slice b ys.length cb] (KAnd (KSl a xs.length cap encI xs) (KSl b ys.length cb encI ys)) (.bool (decide (xs = ys))) := by
  refine Cx_of Try.func25 rfl Try.ntmps25 rfl fun w0 M0 => ?_
  refine JC_seq ?_
  refine JC_region ?_
  refine JL_pd rfl (det_assign rfl) ?_
  refine JL_nil ?_
  refine JE_seq ?_
  refine JC_seq ?_
  refine JC_seq ?_
  refine JC_region ?_
  refine JL_pd rfl (det_move rfl) ?_
  refine JL_pd rfl (det_len rfl Try.runUnderlying22) ?_
  refine JL_pd rfl (det_move rfl) ?_
  refine JL_pd rfl (det_len rfl Try.runUnderlying22) ?_
  refine JL_pd rfl (det_neq rfl rfl) ?_
  refine JL_nil ?_
  refine JE_seq ?_
  -- stop: cond
  refine JC_ifn rfl (fun h1 => ?_) (fun h1 => ?_)
  · refine JC_seq ?_
    refine JC_region ?_
    refine JL_pd rfl (det_assign rfl) ?_
    refine JL_nil ?_
    refine JE_seq ?_
    refine JC_ret ?_
    refine JE_seq_ret ?_
    -- stop: out
    refine JE_out (.inl rfl) () (results1 Try.results25 (res_tmp rfl)) (by rw [decide_eq_false (fun e => h1 (by rw [e]))]) (List.Perm.refl _) (fun _ _ => trivial)
  · have hl : xs.length = ys.length := by omega
    refine JC_skip ?_
    refine JE_seq ?_
    refine JC_seq ?_
    refine JC_seq ?_
    refine JC_region ?_
    refine JL_pd rfl (det_assign rfl) ?_
    refine JL_nil ?_
    refine JE_seq ?_
    refine JC_block ?_
    -- stop: loop
    refine JC_pure (p := xs.length ≤ 9223372036854775807) (by intro w h; exact h.1.1.bd) fun hz => ?_
    refine JC_loopF (γ := Nat) (fun i => i ≤ xs.length ∧ xs.take i = ys.take i) (fun i => [(5, I i)]) (fun _ => []) (fun i => xs.length - i) 0 ⟨Nat.zero_le _, by simp⟩ (stsub_consI rfl rfl stsub_nil) ht_nil ?_
    rintro i ⟨hi, he⟩ K hK
    dsimp only [List.cons_append, List.nil_append]
    refine JC_seq ?_
    refine JC_seq ?_
    refine JC_region ?_
    refine JL_pd rfl (det_move rfl) ?_
    refine JL_pd rfl (det_move rfl) ?_
    refine JL_pd rfl (det_len rfl Try.runUnderlying22) ?_
    refine JL_pd rfl (det_lss rfl rfl) ?_
    refine JL_nil ?_
    refine JE_seq ?_
    -- stop: cond
    refine JC_if rfl (fun h2 => ?_) (fun h2 => ?_)
    · have hi2 : i < xs.length := by omega
      refine JC_skip ?_
      refine JE_seq ?_
      refine JC_seq ?_
      refine JC_block ?_
      refine JC_seq ?_
      refine JC_draw [] (by kernel_rfl) ?_
      refine JA_pd (i := 0) rfl (by kernel_rfl) rfl rfl (det_move rfl) ?_
      refine JA_pd (i := 1) rfl (by kernel_rfl) rfl rfl (det_move rfl) ?_
      refine JA_dt (i := 2) rfl (by kernel_rfl) (by kernel_rfl) rfl rfl (det_indexAddr rfl rfl (by first | rfl | omega) (by first | assumption | omega | decide) Try.runUnderlying22 Try.sizeOf3) ?_
      refine JA_dt (i := 3) rfl (by kernel_rfl) (by kernel_rfl) rfl rfl (det_loadE rfl (by first | assumption | omega | decide) Try.isAgg3 rfl rfl) ?_
      refine JA_pd (i := 4) rfl (by kernel_rfl) rfl rfl (det_move rfl) ?_
      refine JA_pd (i := 5) rfl (by kernel_rfl) rfl rfl (det_move rfl) ?_
      refine JA_dt (i := 6) rfl (by kernel_rfl) (by kernel_rfl) rfl rfl (det_indexAddr rfl rfl (by first | rfl | omega) (by first | assumption | omega | decide) Try.runUnderlying22 Try.sizeOf3) ?_
      refine JA_dt (i := 7) rfl (by kernel_rfl) (by kernel_rfl) rfl rfl (det_loadE rfl (by first | assumption | omega | decide) Try.isAgg3 rfl rfl) ?_
      refine JA_pd (i := 8) rfl (by kernel_rfl) rfl rfl (det_neq rfl rfl) ?_
      refine JA_done (by kernel_rfl) ?_
      refine JE_seq ?_
      -- stop: cond
      refine JC_ifn rfl (fun h3 => ?_) (fun h3 => ?_)
      · refine JC_seq ?_
        refine JC_region ?_
        refine JL_pd rfl (det_assign rfl) ?_
        refine JL_nil ?_
        refine JE_seq ?_
        refine JC_ret ?_
        refine JE_block_ret ?_
        refine JE_seq_ret ?_
        refine JE_then_ret ?_
        refine JE_block_ret ?_
        refine JE_seq_ret ?_
        -- stop: out
        refine JE_out (.inl rfl) () (results1 Try.results25 (res_tmp rfl)) (by rw [decide_eq_false (fun e => h3 (by subst e; rfl))]) (List.Perm.refl _) (fun _ _ => trivial)
      · refine JC_skip ?_
        refine JE_block ?_
        refine JE_seq ?_
        refine JC_region ?_
        refine JL_pd rfl (det_move rfl) ?_
        refine JL_pd rfl (det_add rfl rfl ⟨by omega, by omega⟩) ?_
        refine JL_pd rfl (det_assign rfl) ?_
        refine JL_nil ?_
        -- stop: end
        exact JE_roundF hK (i + 1) ⟨by omega, by rw [take_snoc hi2, take_snoc (show i < ys.length by omega), he, h3]⟩ (by omega) (stsub_consI rfl (by omega) stsub_nil) ht_nil
    · refine JC_exit ?_
      refine JE_seq_exit ?_
      refine JE_then_exit ?_
      refine JE_block_here ?_
      refine JE_seq ?_
      refine JC_seq ?_
      refine JC_region ?_
      refine JL_pd rfl (det_assign rfl) ?_
      refine JL_nil ?_
      refine JE_seq ?_
      refine JC_ret ?_
      -- stop: out
      obtain rfl : i = xs.length := by omega
      rw [List.take_length, hl, List.take_length] at he
      refine JE_out (.inl rfl) () (results1 Try.results25 (res_tmp rfl)) (by rw [decide_eq_true he]) (List.Perm.refl _) (fun _ _ => trivial)
def prL : List Of := [⟨500, ⟨1, 0, 0⟩, 0, 23, 12⟩, ⟨1300, ⟨3, 0, 2⟩, 0, 23, 2⟩, ⟨200, ⟨0, 0, 1⟩, 0, 23, 12⟩, ⟨1500, ⟨0, 4, 4⟩, 10, 15, 1⟩]
def tdL : List Ms := [⟨5, 10, 200⟩, ⟨2, 30, 80⟩]
theorem prices_j : Cr Try.prog 53 [] KTrue (fun b : Nat => .slice (some ⟨b, 0, none⟩) 4 4) (fun b => KSl (some ⟨b, 0, none⟩) 4 4 encO prL) := by
  refine Cx_of Try.func53 rfl Try.ntmps53 rfl fun w0 M0 => ?_
  refine JC_seq ?_
  refine JC_region ?_
  refine JL_pd rfl (det_assign rfl) ?_
  refine JL_nil ?_
  refine JE_seq ?_
  refine JC_seq ?_
  refine JC_region ?_
  refine JL_pd rfl (det_build rfl (bld_36_0_1 _ _)) ?_
  refine JL_step rfl rfl rfl (jo_alloc0 Try.zeroValue36 rfl) fun b1 => ?_
  refine JL_step0 rfl rfl (jo_store rfl rfl rfl (by first | (simp only [splice_norm]; done) | (simp only [splice_norm]; rfl) | rfl) Try.sizeOf36 rfl rfl) fun _ => ?_
  refine JL_nil ?_
  refine JE_seq ?_
  refine JC_seq ?_
  refine JC_region ?_
  refine JL_pd rfl (det_build rfl (bld_60_0 _)) ?_
  refine JL_dt rfl (det_loadKA rfl Try.isAgg36 Try.sizeOf36 rfl rfl) ?_
  refine JL_pd rfl (det_build rfl (bld_96_0_1_2_3 _ _ _ _ _ _ _)) ?_
  refine JL_pd rfl (det_build rfl (bld_60_0_2 _ _)) ?_
  refine JL_dt rfl (det_loadKA rfl Try.isAgg36 Try.sizeOf36 rfl rfl) ?_
  refine JL_pd rfl (det_build rfl (bld_96_0_1_2_3 _ _ _ _ _ _ _)) ?_
  refine JL_pd rfl (det_build rfl (bld_60_2 _)) ?_
  refine JL_dt rfl (det_loadKA rfl Try.isAgg36 Try.sizeOf36 rfl rfl) ?_
  refine JL_pd rfl (det_build rfl (bld_96_0_1_2_3 _ _ _ _ _ _ _)) ?_
  refine JL_pd rfl (det_build rfl (bld_60_1_2 _ _)) ?_
  refine JL_pd rfl (det_build rfl (bld_36_0_1 _ _)) ?_
  refine JL_pd rfl (det_build rfl (bld_96_0_1_2_3 _ _ _ _ _ _ _)) ?_
  refine JL_step rfl rfl rfl (jo_buildSlice rfl (bsl_58_4_0_1_2_3 _ _ _ _ _ _ _ _ _ _ _ _ _ _ _ _ _ _ _ _ _ _ _ _ _ _ _ _)) fun b15 => ?_
  refine JL_pd rfl (det_assign rfl) ?_
  refine JL_nil ?_
  refine JE_seq ?_
  refine JC_ret ?_
  -- stop: out
  refine JE_lit (enc := encO) b15 4 prL noFp rfl rfl (by decide) ?_
  refine JE_out (.inl rfl) b15 (results1 Try.results53 (res_tmp rfl)) rfl (List.Perm.refl _) (fun w h => h.1)
theorem told_j : Cr Try.prog 54 [] KTrue (fun b : Nat => .slice (some ⟨b, 0, none⟩) 2 2) (fun b => KSl (some ⟨b, 0, none⟩) 2 2 encM tdL) := by
  refine Cx_of Try.func54 rfl Try.ntmps54 rfl fun w0 M0 => ?_
  refine JC_seq ?_
  refine JC_region ?_
  refine JL_pd rfl (det_assign rfl) ?_
  refine JL_nil ?_
  refine JE_seq ?_
  refine JC_seq ?_
  refine JC_region ?_
  refine JL_pd rfl (det_build rfl (bld_94_0_1_2 _ _ _)) ?_
  refine JL_pd rfl (det_build rfl (bld_94_0_1_2 _ _ _)) ?_
  refine JL_step rfl rfl rfl (jo_buildSlice rfl (bsl_33_2_0_1 _ _ _ _ _ _)) fun b3 => ?_
  refine JL_pd rfl (det_assign rfl) ?_
  refine JL_nil ?_
  refine JE_seq ?_
  refine JC_ret ?_
  -- stop: out
  refine JE_lit (enc := encM) b3 2 tdL noFp rfl rfl (by decide) ?_
  refine JE_out (.inl rfl) b3 (results1 Try.results54 (res_tmp rfl)) rfl (List.Perm.refl _) (fun w h => h.1)
theorem pr_ask : askE prL ⟨4, 0, 3⟩ 9 = 0 := by decide +kernel
theorem pr_best : bst 9 prL ⟨4, 0, 3⟩ = some ⟨[1, 1, 1, 0], 2000, 3⟩ := by decide +kernel
theorem srt_val {l ts : List Ms} (h1 : ts.Pairwise fun a b => a.no < b.no) (h2 : (ddL l).Perm ts) : srtL l = ts := up_unique h1 (srt_up l) ((srt_perm l).trans h2)
def tdS : List Ms := [⟨2, 30, 80⟩, ⟨5, 10, 200⟩]
theorem td_srt : srtL tdL = tdS := srt_val (by decide +kernel) (by decide +kernel)
theorem td_read : readE tdL = 0 := by unfold readE; rw [td_srt]; decide +kernel
theorem td_taken : takenE tdL 1 3 = 0 := by unfold takenE; rw [td_read, td_srt]; decide +kernel
theorem td_v : takenV littleG (srtL tdL) 1 3 = 81 ∧ takenV muchG (srtL tdL) 1 3 = 189 := by rw [td_srt]; decide +kernel
theorem td_lost : lostL (srtL tdL) = [1, 3, 4] := by rw [td_srt]; decide +kernel
theorem wBest_j (b : Nat) : Cr Try.prog 32 [.slice (some ⟨b, 0, none⟩) 4 4, .agg #[I 4, I 0, I 3], I 9] (KSl (some ⟨b, 0, none⟩) 4 4 encO prL) (fun q : Option Addr × Nat => .tuple #[.slice q.1 4 q.2, I 2000, I 0]) (fun q => KSl q.1 4 q.2 encI [1, 1, 1, 0]) := by
  have h0 := Best_jo (some ⟨b, 0, none⟩) 4 prL ⟨4, 0, 3⟩ 9 pr_ask
  rw [pr_best] at h0
  exact h0
theorem wShare_j (b : Nat) : Cr Try.prog 17 [I 1000, .slice (some ⟨b, 0, none⟩) 3 3] (KSl (some ⟨b, 0, none⟩) 3 3 encI [1, 1, 1]) (fun q : Option Addr × Nat => .tuple #[.slice q.1 3 q.2, I 0]) (fun q => KSl q.1 3 q.2 encI [333, 333, 334]) :=
  Cr.conv (Share_jo 1000 (some ⟨b, 0, none⟩) 3 [1, 1, 1] (by decide +kernel)) (fun q => rfl) (fun q w h => by rw [show sharesV 1000 [1, 1, 1] = [333, 333, 334] by decide +kernel] at h; exact h)
theorem wTaken_j (b : Nat) : Cv Try.prog 23 [.slice (some ⟨b, 0, none⟩) 2 2, I 1, I 3] (KSl (some ⟨b, 0, none⟩) 2 2 encM tdL) (.tuple #[.agg #[I 81, I 189], I 0]) := by
  have h := Taken_jo (some ⟨b, 0, none⟩) 2 tdL (by decide) 1 3 td_taken
  rw [td_v.1, td_v.2] at h
  exact h
theorem wLost_j (b : Nat) : Cr Try.prog 21 [.slice (some ⟨b, 0, none⟩) 2 2] (KSl (some ⟨b, 0, none⟩) 2 2 encM tdL) (fun q : Option Addr × Nat => .tuple #[.slice q.1 3 q.2, I 0]) (fun q => KSl q.1 3 q.2 encI [1, 3, 4]) :=
  Cr.conv (Lost_jo (some ⟨b, 0, none⟩) 2 tdL (by decide) td_read) (fun q => by rw [td_lost]; rfl) (fun q w h => by rw [td_lost] at h; exact h)
set_option maxRecDepth 100000 in
set_option maxHeartbeats 1000000 in
theorem awake_j : Cv Try.prog 16 [] KTrue (.bool true) := by
  refine Cx_of Try.func16 rfl Try.ntmps16 rfl fun w0 M0 => ?_
  refine JC_seq ?_
  refine JC_region ?_
  refine JL_pd rfl (det_assign rfl) ?_
  refine JL_nil ?_
  refine JE_seq ?_
  refine JC_seq ?_
  refine JC_region ?_
  refine JL_step rfl rfl rfl (jo_call rfl rfl Try.call53 rfl (prices_j)) fun x11 => ?_
  refine JL_pd rfl (det_build rfl (bld_60_0_2 _ _)) ?_
  -- stop: op  2 t13 := (call (Call (value f32) (t11 t12 9) (58 60 3)))   <0 1 0>   72
  refine JL_step rfl rfl rfl (jo_call rfl rfl Try.call32 rfl (wBest_j x11)) fun xa => ?_
  refine JL_pd rfl (det_move rfl) ?_
  refine JL_pd rfl (det_extract rfl rfl) ?_
  refine JL_pd rfl (det_extract rfl rfl) ?_
  refine JL_pd rfl (det_extract rfl rfl) ?_
  refine JL_pd rfl (det_assign rfl) ?_
  refine JL_pd rfl (det_assign rfl) ?_
  refine JL_pd rfl (det_assign rfl) ?_
  refine JL_nil ?_
  refine JE_seq ?_
  refine JC_seq ?_
  refine JC_region ?_
  refine JL_step rfl rfl rfl (jo_buildSlice rfl (bsl_22_3_0_1_2 _ _ _)) fun b18 => ?_
  -- stop: op  1 t19 := (call (Call (value f17) (1000 t18) (3 22)))   <0>   73
  refine JL_lit (enc := encI) b18 3 [1, 1, 1] noFp rfl rfl (by decide) ?_
  refine JL_step rfl rfl rfl (jo_call rfl rfl Try.call17 rfl (wShare_j b18)) fun xs => ?_
  refine JL_pd rfl (det_move rfl) ?_
  refine JL_pd rfl (det_extract rfl rfl) ?_
  refine JL_pd rfl (det_extract rfl rfl) ?_
  refine JL_pd rfl (det_assign rfl) ?_
  refine JL_pd rfl (det_assign rfl) ?_
  refine JL_nil ?_
  refine JE_seq ?_
  refine JC_seq ?_
  refine JC_region ?_
  refine JL_step rfl rfl rfl (jo_call rfl rfl Try.call54 rfl (told_j)) fun x23 => ?_
  -- stop: op  1 t24 := (call (Call (value f23) (t23 1 3) (33 3 3)))   <0 0>   74
  refine JL_step rfl rfl rfl (jo_callv rfl rfl Try.call23 rfl (wTaken_j x23)) fun _ => ?_
  refine JL_pd rfl (det_move rfl) ?_
  refine JL_pd rfl (det_extract rfl rfl) ?_
  refine JL_pd rfl (det_extract rfl rfl) ?_
  refine JL_step rfl rfl rfl (jo_alloc0 Try.zeroValue36 rfl) fun b6 => ?_
  refine JL_step0 rfl rfl (jo_store rfl rfl rfl (by first | (simp only [splice_norm]; done) | (simp only [splice_norm]; rfl) | rfl) Try.sizeOf36 rfl rfl) fun _ => ?_
  refine JL_pd rfl (det_assign rfl) ?_
  refine JL_nil ?_
  refine JE_seq ?_
  refine JC_seq ?_
  refine JC_region ?_
  refine JL_step rfl rfl rfl (jo_call rfl rfl Try.call54 rfl (told_j)) fun x28 => ?_
  -- stop: op  1 t29 := (call (Call (value f21) (t28) (33)))   <0 0>   75
  refine JL_step rfl rfl rfl (jo_call rfl rfl Try.call21 rfl (wLost_j x28)) fun xl => ?_
  refine JL_pd rfl (det_move rfl) ?_
  refine JL_pd rfl (det_extract rfl rfl) ?_
  refine JL_pd rfl (det_extract rfl rfl) ?_
  refine JL_pd rfl (det_assign rfl) ?_
  refine JL_pd rfl (det_assign rfl) ?_
  refine JL_nil ?_
  refine JE_seq ?_
  refine JC_seq ?_
  refine JC_region ?_
  refine JL_pd rfl (det_move rfl) ?_
  refine JL_pd rfl (det_eql rfl rfl) ?_
  refine JL_pd rfl (det_move rfl) ?_
  -- stop: guard 2
  skip
  refine JL_is (d0 := 34) true rfl (by decide) (fun g1 => ?_)
  refine JL_guard rfl rfl g1 ?_
  refine JL_pd rfl (det_move rfl) ?_
  refine JL_guard rfl rfl g1 ?_
  refine JL_pd rfl (det_eql rfl rfl) ?_
  refine JL_pd rfl (det_pick_t rfl g1 rfl) ?_
  refine JL_pd rfl (det_move rfl) ?_
  refine JL_is (d0 := 38) true rfl (by decide) (fun g2 => ?_)
  refine JL_guard rfl rfl g2 ?_
  refine JL_pd rfl (det_move rfl) ?_
  refine JL_guard rfl rfl g2 ?_
  refine JL_step rfl rfl rfl (jo_buildSlice rfl (bsl_22_4_0_1_2_3 _ _ _ _)) fun b40 => ?_
  refine JL_guard rfl rfl g2 ?_
  -- stop: op  9 t41 := (call (Call (value f25) (t39 t40) (22 22)))   <7 8 6 6>   76
  refine JL_lit (enc := encI) b40 4 [1, 1, 1, 0] noFp rfl rfl (by decide) ?_
  refine JL_step rfl rfl rfl (jo_callv rfl rfl Try.call25 rfl (ints_j xa.1 xa.2 [1, 1, 1, 0] (some ⟨b40, 0, none⟩) 4 [1, 1, 1, 0])) fun _ => ?_
  refine JL_pd rfl (det_pick_t rfl g2 rfl) ?_
  refine JL_pd rfl (det_move rfl) ?_
  -- stop: guard 11
  skip
  refine JL_is (d0 := 43) true rfl (by decide) (fun g1 => ?_)
  refine JL_guard rfl rfl g1 ?_
  refine JL_pd rfl (det_move rfl) ?_
  refine JL_guard rfl rfl g1 ?_
  refine JL_pd rfl (det_eql rfl rfl) ?_
  refine JL_pd rfl (det_pick_t rfl g1 rfl) ?_
  refine JL_pd rfl (det_move rfl) ?_
  refine JL_is (d0 := 47) true rfl (by decide) (fun g2 => ?_)
  refine JL_guard rfl rfl g2 ?_
  refine JL_pd rfl (det_move rfl) ?_
  refine JL_guard rfl rfl g2 ?_
  refine JL_step rfl rfl rfl (jo_buildSlice rfl (bsl_22_3_0_1_2 _ _ _)) fun b49 => ?_
  refine JL_guard rfl rfl g2 ?_
  -- stop: op 18 t50 := (call (Call (value f25) (t48 t49) (22 22)))   <16 17 15 15>   76
  refine JL_lit (enc := encI) b49 3 [333, 333, 334] noFp rfl rfl (by decide) ?_
  refine JL_step rfl rfl rfl (jo_callv rfl rfl Try.call25 rfl (ints_j xs.1 xs.2 [333, 333, 334] (some ⟨b49, 0, none⟩) 3 [333, 333, 334])) fun _ => ?_
  refine JL_pd rfl (det_pick_t rfl g2 rfl) ?_
  refine JL_pd rfl (det_move rfl) ?_
  -- stop: guard 20
  skip
  refine JL_is (d0 := 52) true rfl (by decide) (fun g1 => ?_)
  refine JL_guard rfl rfl g1 ?_
  refine JL_pd rfl (det_move rfl) ?_
  refine JL_guard rfl rfl g1 ?_
  refine JL_pd rfl (det_eql rfl rfl) ?_
  refine JL_pd rfl (det_pick_t rfl g1 rfl) ?_
  refine JL_pd rfl (det_move rfl) ?_
  refine JL_is (d0 := 56) true rfl (by decide) (fun g2 => ?_)
  refine JL_guard rfl rfl g2 ?_
  refine JL_dt rfl (det_loadKA rfl Try.isAgg36 Try.sizeOf36 rfl rfl) ?_
  refine JL_guard rfl rfl g2 ?_
  refine JL_pd rfl (det_build rfl (bld_36_0_1 _ _)) ?_
  refine JL_guard rfl rfl g2 ?_
  refine JL_pd rfl (det_eqlA rfl rfl egt_36 (eqa_36 _ _ _ _)) ?_
  refine JL_pd rfl (det_pick_t rfl g2 rfl) ?_
  refine JL_pd rfl (det_move rfl) ?_
  refine JL_is (d0 := 61) true rfl (by decide) (fun g3 => ?_)
  refine JL_guard rfl rfl g3 ?_
  refine JL_pd rfl (det_move rfl) ?_
  refine JL_guard rfl rfl g3 ?_
  refine JL_pd rfl (det_eql rfl rfl) ?_
  refine JL_pd rfl (det_pick_t rfl g3 rfl) ?_
  refine JL_pd rfl (det_move rfl) ?_
  refine JL_is (d0 := 65) true rfl (by decide) (fun g4 => ?_)
  refine JL_guard rfl rfl g4 ?_
  refine JL_pd rfl (det_move rfl) ?_
  refine JL_guard rfl rfl g4 ?_
  refine JL_step rfl rfl rfl (jo_buildSlice rfl (bsl_22_3_0_1_2 _ _ _)) fun b67 => ?_
  refine JL_guard rfl rfl g4 ?_
  -- stop: op 36 t68 := (call (Call (value f25) (t66 t67) (22 22)))   <34 35 33 33>   76
  refine JL_lit (enc := encI) b67 3 [1, 3, 4] noFp rfl rfl (by decide) ?_
  refine JL_step rfl rfl rfl (jo_callv rfl rfl Try.call25 rfl (ints_j xl.1 xl.2 [1, 3, 4] (some ⟨b67, 0, none⟩) 3 [1, 3, 4])) fun _ => ?_
  refine JL_pd rfl (det_pick_t rfl g4 rfl) ?_
  refine JL_pd rfl (det_assign rfl) ?_
  refine JL_nil ?_
  refine JE_seq ?_
  refine JC_ret ?_
  -- stop: out
  refine JE_out (.inl rfl) () (results1 Try.results16 (res_tmp rfl)) rfl (List.Perm.refl _) (fun _ _ => trivial)
end Go.Proofs.Ytjbmkdbgobmclaa

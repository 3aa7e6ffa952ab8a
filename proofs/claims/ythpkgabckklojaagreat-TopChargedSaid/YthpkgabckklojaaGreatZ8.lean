/- Own texts, laid together: L5 L6. Nothing is asked. -/
import Derived.Test.YthpkgabckklojaaGreatZ7
set_option linter.unusedSimpArgs false
set_option linter.unusedVariables false
/- League: the points behind outcomes. -/
namespace Go.Proofs.YthpkgabckklojaaGreat.Bl
open Go.RowKit Go.Shelf

section
variable {P : Program} {st : Sto} {d : Option Nat} {ty : TypeId} {pos : String} {af : Array Edge} {g : Option (Nat × Bool)}
theorem det_sliceArrTo {x y : Operand} {t E b off n z : Nat} {q : IntKind} {j : Int} (m : Nat) (hx : opnd st x = some (.pointer (some ⟨b, off, none⟩))) (hy : opnd st y = some (.int q j)) (hj : j = (m : Int)) (hm : m ≤ n)
    (hu : ∀ w, (underlying t).run P w = .ok (.array n E) w) (hS : ∀ w, (sizeOf E).run P w = .ok z w) : PDet P ⟨d, .slice t x none (some y) none, ty, pos, af, g⟩ st (.slice (some ⟨b, off, none⟩) m n) := fun N ac w hst => by
  subst hj
  have e3 : (0 : Int) ≤ (m : Int) ∧ (m : Int) ≤ (n : Int) := by omega
  simp [execOp, hst.eval hx, hst.eval hy, Instr.sliceAt, Instr.sliceBounds, Instr.sliceBound, asIntOf, Sem.run_bind, Sem.run_pure, Result.andThen, hu, hS, Instr.sureAddr, addr_add, e3, hm]
end
theorem u8_wrap {n : Int} (h : 0 ≤ n ∧ n ≤ 255) : IntKind.u8.wrap n = n := by
  simp [IntKind.wrap, IntKind.bits, IntKind.signed]; omega
theorem u16_wrap {n : Int} (h : 0 ≤ n ∧ n ≤ 65535) : IntKind.u16.wrap n = n := by
  simp [IntKind.wrap, IntKind.bits, IntKind.signed]; omega
def ocG (q : Gm × Int) (t : Nat) : Int := (if q.1.a = (t : Int) then 3 - q.2 else 0) + (if q.1.b = (t : Int) then q.2 - 1 else 0)
def oF (z : List (Gm × Int)) (t : Nat) : Int := (z.map fun q => ocG q t).sum
def aftF (l : List Gm) (z : List (Gm × Int)) (t : Nat) : Int := sumF l t + oF z t
theorem oF_snoc (z : List (Gm × Int)) (q : Gm × Int) (t : Nat) : oF (z ++ [q]) t = oF z t + ocG q t := by simp [oF]
theorem ocG_bd {q : Gm × Int} (h : 1 ≤ q.2 ∧ q.2 ≤ 3) (t : Nat) : 0 ≤ ocG q t ∧ ocG q t ≤ 2 := by
  unfold ocG
  split <;> split <;> omega
theorem oF_bd (z : List (Gm × Int)) (h : ∀ q ∈ z, 1 ≤ q.2 ∧ q.2 ≤ 3) (t : Nat) : 0 ≤ oF z t ∧ oF z t ≤ 2 * (z.length : Int) := by
  induction z with
  | nil => simp [oF]
  | cons q z ih =>
    have h1 := ocG_bd (h q (by simp)) t
    have h2 := ih fun x hx => h x (by simp [hx])
    have e : oF (q :: z) t = ocG q t + oF z t := by simp [oF]
    rw [e, List.length_cons]; omega
theorem oc_step {n : Int} {g : Gm} (l : List Gm) (z : List (Gm × Int)) (o : Int) (V : VGm n g) (na nb : Nat) (ha : g.a = (na : Int)) (hb : g.b = (nb : Int)) : updP (updP (aftF l z) na (aftF l z na + (3 - o))) nb (aftF l z nb + (o - 1)) = aftF l (z ++ [(g, o)]) := by
  have hne := V.ne
  funext t
  show _ = sumF l t + oF (z ++ [(g, o)]) t
  rw [oF_snoc]
  unfold updP aftF ocG
  by_cases h1 : t = nb
  · subst h1
    rw [if_pos rfl, if_neg (show ¬ g.a = (t : Int) by omega), if_pos hb]; omega
  · rw [if_neg h1, if_neg (show ¬ g.b = (t : Int) by omega)]
    by_cases h2 : t = na
    · subst h2; rw [if_pos rfl, if_pos ha]; omega
    · rw [if_neg h2, if_neg (show ¬ g.a = (t : Int) by omega)]; omega
def okO (o : Int) : Bool := decide (1 ≤ o) && decide (o ≤ 3)
theorem okO_iff {o : Int} : okO o = true ↔ 1 ≤ o ∧ o ≤ 3 := by simp [okO]
theorem after1_j (o : Int) : Cv Tryz.prog 120 [.int .u8 o] KTrue (.bool (okO o)) := by
  refine Cx_of Tryz.func120 rfl Tryz.ntmps120 rfl fun w0 M0 => ?_
  refine JC_seq ?_
  refine JC_region ?_
  refine JL_pd rfl (det_assign rfl) ?_
  refine JL_nil ?_
  refine JE_seq ?_
  refine JC_seq ?_
  refine JC_region ?_
  refine JL_pd rfl (det_move rfl) ?_
  refine JL_pd rfl (det_leq rfl rfl) ?_
  refine JL_pd rfl (det_move rfl) ?_
  refine JL_split (d0 := 5) rfl (fun h1 => ?_) (fun h1 => ?_)
  · refine JL_guard rfl rfl h1 ?_
    refine JL_pd rfl (det_move rfl) ?_
    refine JL_guard rfl rfl h1 ?_
    refine JL_pd rfl (det_leq rfl rfl) ?_
    refine JL_pd rfl (det_pick_t rfl h1 rfl) ?_
    refine JL_pd rfl (det_assign rfl) ?_
    refine JL_nil ?_
    refine JE_seq ?_
    refine JC_ret ?_
    refine JE_out (.inl rfl) () (results1 Tryz.results120 (res_tmp rfl)) ?_ (List.Perm.refl _) (fun _ _ => trivial)
    (simp_all [okO])
    (try omega)
  · refine JL_skip rfl rfl h1 rfl ?_
    refine JL_skip rfl rfl h1 rfl ?_
    refine JL_pd rfl (det_pick_f rfl h1 rfl) ?_
    refine JL_pd rfl (det_assign rfl) ?_
    refine JL_nil ?_
    refine JE_seq ?_
    refine JC_ret ?_
    refine JE_out (.inl rfl) () (results1 Tryz.results120 (res_tmp rfl)) ?_ (List.Perm.refl _) (fun _ _ => trivial)
    (simp_all [okO])
    (try omega)
def ptsL (n : Int) (f : Nat → Int) : List Int := (List.range n.toNat).map f
theorem ptsL_len (n : Int) (f : Nat → Int) : (ptsL n f).length = n.toNat := by simp [ptsL]
theorem zip_snoc {α β : Type} (xs : List α) (ys : List β) (i : Nat) (h1 : i < xs.length) (h2 : i < ys.length) : (xs.zip ys).take (i + 1) = (xs.zip ys).take i ++ [(xs[i], ys[i])] := by
  rw [List.take_succ_eq_append_getElem (by rw [List.length_zip]; omega), List.getElem_zip]
set_option maxRecDepth 100000 in
theorem After_j (n : Int) (a : Option Addr) (c : Nat) (l : List Gm) (oa : Option Addr) (oc : Nat) (os : List Int) (V : VL n l) (ho : os.length = (opnL l).length) (hos : ∀ o ∈ os, 1 ≤ o ∧ o ≤ 3) :
    Cr Tryz.prog 76 [.agg #[I n, .slice a l.length c], .slice oa os.length oc] (KAnd (KSl a l.length c encG l) (KSl oa os.length oc encB os)) (fun q : Option Addr × Nat => .tuple #[.slice q.1 n.toNat q.2, I 0]) (fun q => KSl q.1 n.toNat q.2 encI (ptsL n (aftF l ((opnL l).zip os)))) := by
  have hl := V.l1
  have hn0 := V.n0
  have hn1 := V.n1
  have hC := CheckLeague_j n a c l
  rw [of_lg V] at hC
  have hol : (opnL l).length ≤ l.length := List.length_filter_le _ _
  have hal : (os.all okO) = true := List.all_eq_true.2 fun o h => okO_iff.2 (hos o h)
  have hA := allU_j okO 120 [] [] KTrue Tryz.call120 oa oc os (fun x _ => after1_j x) (by omega)
  rw [hal] at hA
  refine Cx_of Tryz.func76 rfl Tryz.ntmps76 rfl fun w0 M0 => ?_
  refine JC_seq ?_
  refine JC_region ?_
  refine JL_step rfl rfl rfl (jo_box rfl rfl) fun b2 => ?_
  refine JL_pd rfl (det_assign rfl) ?_
  refine JL_pd rfl (det_assign rfl) ?_
  refine JL_nil ?_
  refine JE_seq ?_
  refine JC_seq ?_
  refine JC_seq ?_
  refine JC_region ?_
  refine JL_dt rfl (det_loadKA rfl Tryz.isAgg172 Tryz.sizeOf172 rfl rfl) ?_
  refine JL_step rfl rfl rfl (jo_callv rfl rfl Tryz.call117 rfl (hC)) fun _ => ?_
  refine JL_pd rfl (det_assign rfl) ?_
  refine JL_nil ?_
  refine JE_seq ?_
  refine JC_seq ?_
  refine JC_region ?_
  refine JL_pd rfl (det_move rfl) ?_
  refine JL_pd rfl (det_neq rfl rfl) ?_
  refine JL_nil ?_
  refine JE_seq ?_
  -- stop: cond
  refine JC_ifn rfl (fun h1 => ?_) (fun h1 => ?_)
  · exact absurd rfl h1
  refine JC_skip ?_
  refine JE_seq ?_
  refine JC_seq ?_
  refine JC_region ?_
  refine JL_dt rfl (det_loadKA rfl Tryz.isAgg172 Tryz.sizeOf172 rfl rfl) ?_
  refine JL_step rfl rfl rfl (jo_call rfl rfl Tryz.call118 rfl (open_j n a c l (by omega))) fun x17 => ?_
  refine JL_pd rfl (det_assign rfl) ?_
  refine JL_nil ?_
  refine JE_seq ?_
  refine JC_seq ?_
  refine JC_seq ?_
  refine JC_region ?_
  refine JL_pd rfl (det_move rfl) ?_
  refine JL_pd rfl (det_len rfl Tryz.runUnderlying220) ?_
  refine JL_pd rfl (det_move rfl) ?_
  refine JL_pd rfl (det_len rfl Tryz.runUnderlying170) ?_
  refine JL_pd rfl (det_neq rfl rfl) ?_
  refine JL_pd rfl (det_move rfl) ?_
  -- stop: guard 5
  refine JL_is (d0 := 23) false rfl (by simp [ho]) (fun k1 => ?_)
  refine JL_guard rfl rfl k1 ?_
  refine JL_pd rfl (det_move rfl) ?_
  refine JL_guard rfl rfl k1 ?_
  refine JL_step rfl rfl rfl (jo_callv rfl rfl Tryz.call119 rfl (hA)) fun _ => ?_
  refine JL_guard rfl rfl k1 ?_
  refine JL_pd rfl (det_not rfl) ?_
  refine JL_pd rfl (det_pick_f rfl k1 rfl) ?_
  refine JL_nil ?_
  refine JE_seq ?_
  -- stop: cond
  refine JC_cond rfl (fun h2 => ?_) (fun h2 => ?_)
  · cases h2
  refine JC_skip ?_
  refine JE_seq ?_
  refine JC_seq ?_
  refine JC_region ?_
  refine JL_dt rfl (det_loadKA rfl Tryz.isAgg172 Tryz.sizeOf172 rfl rfl) ?_
  refine JL_step rfl rfl rfl (jo_callv rfl rfl Tryz.call121 rfl (sums_j n a c l V)) fun _ => ?_
  refine JL_step rfl rfl rfl (jo_alloc0 Tryz.zeroValue226 rfl) fun b8 => ?_
  refine JL_step0 rfl rfl (jo_store rfl rfl rfl (by first | (simp only [splice_norm]; done) | (simp only [splice_norm]; rfl) | rfl) Tryz.sizeOf226 rfl rfl) fun _ => ?_
  refine JL_nil ?_
  refine JE_seq ?_
  refine JC_seq ?_
  refine JC_seq ?_
  refine JC_region ?_
  refine JL_pd rfl (det_move rfl) ?_
  refine JL_pd rfl (det_len rfl Tryz.runUnderlying220) ?_
  refine JL_pd rfl (det_move rfl) ?_
  refine JL_nil ?_
  refine JE_seq ?_
  refine JC_block ?_
  -- stop: loop
  obtain ⟨z, hz⟩ : ∃ z, z = (opnL l).zip os := ⟨_, rfl⟩
  have hzl : z.length = os.length := by rw [hz, List.length_zip]; omega
  have hzv : ∀ q ∈ z, 1 ≤ q.2 ∧ q.2 ≤ 3 := fun q hq => hos _ (List.of_mem_zip (hz ▸ hq)).2
  have h00 : encP 6 (sumF l) = encP 6 (aftF l (z.take 0)) := by
    congr 1; funext t; simp [aftF, oF]
  rw [← hz]
  refine JC_loopF (γ := Nat) (fun i => i ≤ os.length) (fun i => [(32, I i)]) (fun i => [bx b8 (encP 6 (aftF l (z.take i)))]) (fun i => os.length - i) 0 (Nat.zero_le _) (stsub_consI rfl rfl stsub_nil) (ht_bx (by rw [← h00]; rfl) ht_nil) ?_
  intro i hi K hK
  dsimp only [List.cons_append, List.nil_append]
  refine JC_seq ?_
  refine JC_region ?_
  refine JL_pd rfl (det_lss rfl rfl) ?_
  refine JL_nil ?_
  refine JE_seq ?_
  refine JC_seq ?_
  -- stop: cond
  refine JC_if rfl (fun h3 => ?_) (fun h3 => ?_)
  · have hi2 : i < os.length := by omega
    have hi3 : i < (opnL l).length := by omega
    have hmem : (opnL l)[i] ∈ l := (List.mem_filter.1 (List.getElem_mem hi3)).1
    have Vg := V.g _ hmem
    have ho1 := hos _ (List.getElem_mem hi2)
    have hsn := zip_snoc (opnL l) os i hi3 hi2
    rw [← hz] at hsn
    obtain ⟨na, ha⟩ : ∃ na : Nat, (opnL l)[i].a = (na : Int) := ⟨(opnL l)[i].a.toNat, by have := Vg.a0; omega⟩
    obtain ⟨nb, hb⟩ : ∃ nb : Nat, (opnL l)[i].b = (nb : Int) := ⟨(opnL l)[i].b.toNat, by have := Vg.b0; omega⟩
    have hna : na < 6 := by have := Vg.a1; omega
    have hnb : nb < 6 := by have := Vg.b1; omega
    have hne : nb ≠ na := fun e => Vg.ne (by rw [ha, hb, e])
    have bd : ∀ t, 0 ≤ aftF l (z.take i) t ∧ aftF l (z.take i) t ≤ 80 := fun t => by
      have h1 := sumF_bd l t
      have h2 := oF_bd (z.take i) (fun q hq => hzv q (List.mem_of_mem_take hq)) t
      rw [List.length_take] at h2
      unfold aftF; omega
    have ba := bd na
    have bb := bd nb
    have hup : updP (aftF l (z.take i)) na (aftF l (z.take i) na + (3 - os[i])) nb = aftF l (z.take i) nb := by unfold updP; rw [if_neg hne]
    have hst := oc_step l (z.take i) os[i] Vg na nb ha hb
    rw [← hsn] at hst
    refine JC_skip ?_
    refine JE_seq ?_
    refine JC_seq ?_
    refine JC_block ?_
    refine JC_seq ?_
    refine JC_region ?_
    refine JL_pd rfl (det_move rfl) ?_
    refine JL_dt rfl (det_indexAddr rfl rfl (by first | rfl | omega) (by first | assumption | omega | decide) Tryz.runUnderlying220 Tryz.sizeOf5) ?_
    refine JL_dt rfl (det_loadE rfl (by first | assumption | omega | decide) Tryz.isAgg5 rfl rfl) ?_
    refine JL_pd rfl (det_assign rfl) ?_
    refine JL_pd rfl (det_assign rfl) ?_
    refine JL_nil ?_
    refine JE_seq ?_
    refine JC_seq ?_
    refine JC_region ?_
    refine JL_pd rfl (det_move rfl) ?_
    refine JL_pd rfl (det_move rfl) ?_
    refine JL_dt rfl (det_indexAddr rfl rfl (by first | rfl | omega) (by first | assumption | omega | decide) Tryz.runUnderlying170 Tryz.sizeOf169) ?_
    refine JL_pd rfl (det_fieldAddrE rfl fo_169_0) ?_
    refine JL_dt rfl (det_loadEk rfl (by first | assumption | omega | decide) Tryz.isAgg3 rfl rfl) ?_
    refine JL_pd rfl (det_indexArr (i := na) rfl rfl ha hna Tryz.runUnderlying226 Tryz.sizeOf3) ?_
    refine JL_dt rfl (det_loadK rfl Tryz.isAgg3 (encP_get hna)) ?_
    refine JL_pd rfl (det_move rfl) ?_
    refine JL_pd rfl (det_subR (3 - os[i]) rfl rfl (u8_wrap ⟨by omega, by omega⟩)) ?_
    refine JL_pd rfl (det_convI rfl Tryz.runUnderlying5 Tryz.runUnderlying3 (i64_wrap ⟨by omega, by omega⟩)) ?_
    refine JL_pd rfl (det_add rfl rfl ⟨by omega, by omega⟩) ?_
    refine JL_pd rfl (det_indexArr (i := na) rfl rfl ha hna Tryz.runUnderlying226 Tryz.sizeOf3) ?_
    refine JL_step0 rfl rfl (jo_store rfl rfl rfl (encP_set 6 _ na _) Tryz.sizeOf3 (by rw [encP_len, Nat.ble_eq]; simp only [List.length_cons, List.length_nil]; omega) rfl) fun _ => ?_
    refine JL_nil ?_
    refine JE_seq ?_
    refine JC_region ?_
    refine JL_pd rfl (det_move rfl) ?_
    refine JL_pd rfl (det_move rfl) ?_
    refine JL_dt rfl (det_indexAddr rfl rfl (by first | rfl | omega) (by first | assumption | omega | decide) Tryz.runUnderlying170 Tryz.sizeOf169) ?_
    refine JL_pd rfl (det_fieldAddrE rfl fo_169_1) ?_
    refine JL_dt rfl (det_loadEk rfl (by first | assumption | omega | decide) Tryz.isAgg3 rfl rfl) ?_
    refine JL_pd rfl (det_indexArr (i := nb) rfl rfl hb hnb Tryz.runUnderlying226 Tryz.sizeOf3) ?_
    refine JL_dt rfl (det_loadK rfl Tryz.isAgg3 ((encP_get hnb).trans (by rw [hup]))) ?_
    refine JL_pd rfl (det_move rfl) ?_
    refine JL_pd rfl (det_subR (os[i] - 1) rfl rfl (u8_wrap ⟨by omega, by omega⟩)) ?_
    refine JL_pd rfl (det_convI rfl Tryz.runUnderlying5 Tryz.runUnderlying3 (i64_wrap ⟨by omega, by omega⟩)) ?_
    refine JL_pd rfl (det_add rfl rfl ⟨by omega, by omega⟩) ?_
    refine JL_pd rfl (det_indexArr (i := nb) rfl rfl hb hnb Tryz.runUnderlying226 Tryz.sizeOf3) ?_
    refine JL_step0 rfl rfl (jo_store rfl rfl rfl (encP_set 6 _ nb _) Tryz.sizeOf3 (by rw [encP_len, Nat.ble_eq]; simp only [List.length_cons, List.length_nil]; omega) rfl) fun _ => ?_
    refine JL_nil ?_
    refine JE_block ?_
    refine JE_seq ?_
    refine JC_region ?_
    refine JL_pd rfl (det_add rfl rfl ⟨by omega, by omega⟩) ?_
    refine JL_pd rfl (det_move rfl) ?_
    refine JL_nil ?_
    -- stop: end
    refine JE_roundF hK (i + 1) (by omega) (by omega) (stsub_consI rfl (by omega) stsub_nil) (ht_bx (by rw [hst]) ht_nil)
  · obtain rfl : i = os.length := by omega
    rw [List.take_of_length_le (l := z) (i := os.length) (by omega)]
    obtain ⟨m, hm⟩ : ∃ m : Nat, n = (m : Int) := ⟨n.toNat, by omega⟩
    have hmm : n.toNat = m := by omega
    refine JC_exit ?_
    refine JE_seq_exit ?_
    refine JE_then_exit ?_
    refine JE_block_here ?_
    refine JE_seq ?_
    refine JC_seq ?_
    refine JC_region ?_
    refine JL_pd rfl (det_fieldAddr rfl fo_172_0) ?_
    refine JL_dt rfl (det_loadK rfl Tryz.isAgg3 rfl) ?_
    refine JL_pd rfl (det_sliceArrTo m rfl rfl hm (by omega) Tryz.runUnderlying226 Tryz.sizeOf3) ?_
    -- stop: op  3 t65 := (call (Call (value f93) (t64) (31)))   <2>   187
    refine JL_lit (enc := encI) b8 6 ((List.range 6).map (aftF l z)) noFp rfl rfl (by decide) ?_
    have hpt : ((List.range 6).map (aftF l z)).take m = ptsL n (aftF l z) := by
      rw [ptsL, hmm, ← List.map_take, List.take_range, Nat.min_eq_left (by omega)]
    have hpl : (ptsL n (aftF l z)).length = m := by rw [ptsL_len, hmm]
    refine JL_know (R' := KAnd (KSl (some ⟨b8, 0, none⟩) m 6 encI (ptsL n (aftF l z))) _) (fun w h => ⟨hpt ▸ KSl_take (Knows.know (F := KSl (some ⟨b8, 0, none⟩) 6 6 encI ((List.range 6).map (aftF l z))) w h) (show m ≤ 6 by omega), h⟩) ?_
    have hcl := Clone_j (some ⟨b8, 0, none⟩) 6 (ptsL n (aftF l z)) (by omega)
    rw [hpl] at hcl
    refine JL_step rfl rfl rfl (jo_call rfl rfl Tryz.call93 rfl (hcl)) fun x => ?_
    refine JL_pd rfl (det_assign rfl) ?_
    refine JL_pd rfl (det_assign rfl) ?_
    refine JL_nil ?_
    refine JE_seq ?_
    refine JC_ret ?_
    -- stop: out
    rw [hmm]
    refine JE_out (.inl rfl) x (results2 Tryz.results76 (res_tmp rfl) (res_tmp rfl)) rfl (List.Perm.refl _) (fun w h => h.1)
end Go.Proofs.YthpkgabckklojaaGreat.Bl

/- League: what a team can reach; whether it surely is first. -/
namespace Go.Proofs.YthpkgabckklojaaGreat.Bl
open Go.RowKit Go.Shelf

def rcG (g : Gm) (t : Nat) : Int := if g.a = (t : Int) ∨ g.b = (t : Int) then 2 else 0
def rcF (z : List Gm) (t : Nat) : Int := (z.map fun g => rcG g t).sum
def rchF (l : List Gm) (t : Nat) : Int := sumF l t + rcF (opnL l) t
theorem rcF_snoc (z : List Gm) (g : Gm) (t : Nat) : rcF (z ++ [g]) t = rcF z t + rcG g t := by simp [rcF]
theorem rcG_bd (g : Gm) (t : Nat) : 0 ≤ rcG g t ∧ rcG g t ≤ 2 := by
  unfold rcG
  split <;> omega
theorem rcF_bd (z : List Gm) (t : Nat) : 0 ≤ rcF z t ∧ rcF z t ≤ 2 * (z.length : Int) := by
  induction z with
  | nil => simp [rcF]
  | cons q z ih =>
    have h1 := rcG_bd q t
    have e : rcF (q :: z) t = rcG q t + rcF z t := by simp [rcF]
    rw [e, List.length_cons]; omega
def rcC (t : Nat) (r : Int) (f : Nat → Int) (oa : Option Addr) (no oc : Nat) : List Value := [I t, I r, I (f 0), I (f 1), I (f 2), I (f 3), I (f 4), I (f 5), .slice oa no oc, .slice none 0 0]
theorem rcC_get (t : Nat) (r : Int) (f : Nat → Int) (oa : Option Addr) (no oc : Nat) {i : Nat} (h : i < 6) : (rcC t r f oa no oc)[0 + 2 + i * 1]? = some (I (f i)) := by
  rcases (by omega : i = 0 ∨ i = 1 ∨ i = 2 ∨ i = 3 ∨ i = 4 ∨ i = 5) with rfl | rfl | rfl | rfl | rfl | rfl <;> rfl
theorem encP6 (f : Nat → Int) : (Value.agg (encP 6 f).toArray) = .agg #[I (f 0), I (f 1), I (f 2), I (f 3), I (f 4), I (f 5)] := rfl
theorem encP_get0 {n : Nat} {f : Nat → Int} {i : Nat} (h : i < n) : (encP n f)[i]? = some (I (f i)) := by simp [encP, h]
def surF (m : Nat) (l : List Gm) (t : Nat) : Bool := (List.range m).all fun o => decide (o = t) || decide (rchF l o ≤ sumF l t)
theorem sur_no {m : Nat} {l : List Gm} {t i : Nat} (hi : i < m) (h1 : i ≠ t) (h2 : sumF l t < rchF l i) : surF m l t = false := by
  unfold surF
  rw [List.all_eq_false]
  exact ⟨i, List.mem_range.2 hi, by simp [h1]; omega⟩
theorem sur_iff {m : Nat} {l : List Gm} {t : Nat} : surF m l t = true ↔ ∀ o, o < m → o = t ∨ rchF l o ≤ sumF l t := by
  unfold surF
  rw [List.all_eq_true]
  simp
end Go.Proofs.YthpkgabckklojaaGreat.Bl

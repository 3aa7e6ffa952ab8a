/- The statements about path: room; plain facts of Best and Aims. -/
import Derived.Test.YtcfhbnfincpehaaX5
namespace Go.Proofs.Ytcfhbnfincpehaa
open Go.RowKit Go.Shelf

section
variable {X : Ctx} {P : Program} {st : Sto} {H H0 : List Chunk} {R R0 : World → Prop} {k : Kont} {ops : Array Oper} {rest : List Oper} {Q : Exit → Act → World → Prop} {fuel : Nat} {listed : Array Bool} {tl : List Nat}
theorem yielded_undef {N : Nat} {a : Act} (hs : StOk N st a) {j d0 : Nat} (hj : dstOf ops j = some d0) (hb : look st d0 = some undef) : yielded ops a.tmps j = none := by
  have h1 := hs.get _ _ hb
  unfold dstOf at hj
  unfold yielded
  rw [hj]
  simp only [Option.bind_some]
  simp only [Array.getD_eq_getD_getElem?] at h1
  cases hq : a.tmps[d0]? with
  | none => rfl
  | some v => rw [hq] at h1; simp at h1; rw [h1]; rfl
/-- A guard that has itself been passed over. -/
theorem JL_skipU {d : Nat} {op : Op} {ty : TypeId} {pos : String} {af : Array Edge} {j d0 : Nat} {want : Bool} (hj : dstOf ops j = some d0) (hb : look st d0 = some undef) (hN : Nat.blt d X.N = true)
    (h : JL X P ops Q rest ((d, undef) :: st) H R) : JL X P ops Q (⟨some d, op, ty, pos, af, some (j, want)⟩ :: rest) st H R := by
  intro a w ⟨hs, M, Ds, hd, hm⟩
  have hy := yielded_undef hs hj hb
  have := h (a.put (some d) undef) w ⟨hs.put (blt_lt hN) _, M, Ds, hd, hm⟩
  rw [wpListIn, if_neg (by simp [Region.wanted, hy])]
  exact ⟨fun f _ => fof_fn _ f, this⟩
theorem JA_skipU {i d : Nat} {op : Op} {ty : TypeId} {pos : String} {af : Array Edge} {j d0 : Nat} {want : Bool} (hi : ops[i]? = some ⟨some d, op, ty, pos, af, some (j, want)⟩) (hgo : mayGo ops listed i = true) (hit : tl.contains i = false) (hN : Nat.blt d X.N = true)
    (hj : dstOf ops j = some d0) (hb : look st d0 = some undef)
    (hn : JA X P ops k tl H0 R0 fuel (listed.setIfInBounds i true) ((d, undef) :: st) H R) : JA X P ops k tl H0 R0 (fuel + 1) listed st H R :=
  ja_firstP (v := undef) hi rfl hgo (by simpa using hit) hN (fun a hs => .inr ⟨by simp [Region.wanted, yielded_undef hs hj hb], rfl⟩) hn
end
theorem ready2 {l : La} {s : St} (h : (!(thin l && decide (startErr l s = 0))) = false) : thin l = true ∧ startErr l s = 0 := by
  simpa using h
theorem sure_iff {l : La} {s : St} {p : Pk} (h0 : isStart l s = true) (V : Valid l) : hitsV l s p = 2 ↔ s ∈ aimsL l p := by
  have hb := V.b1
  have sb : 1 ≤ s.b ∧ s.b ≤ l.boards ∧ -5 ≤ s.d ∧ s.d ≤ 5 := by simpa [isStart] using h0
  have hm : s ∈ doneS l.boards.toNat 0 := mem_doneS_iff.2 ⟨sb.1, by omega, sb.2.2⟩
  unfold aimsL hitsV
  rw [List.mem_filter]
  unfold sureS
  cases canN l (enM p) (nR l) 0 s
  · simp [hm]
  · cases canN l (hitsP p) (nR l) 0 s <;> simp
theorem aims_sorted (l : La) (p : Pk) : (aimsL l p).Pairwise (fun x y => lessS x y = true) := (doneS_sorted _ 0 (by omega)).filter _
/-- What the best one is among those seen so far. -/
structure BestOf (A pre : List St) (q : St × Int) : Prop where
  none : pre = [] → q.2 = -1
  mem : pre ≠ [] → q.1 ∈ pre ∧ q.2 = (roomN A q.1 : Int) - 1
  le : ∀ s ∈ pre, (roomN A s : Int) - 1 ≤ q.2
  lt : ∀ s ∈ pre, lessS s q.1 = true → (roomN A s : Int) - 1 < q.2
theorem room_pos {A : List St} {s : St} (h : s ∈ A) : 1 ≤ roomN A s :=
  roomN_ge (k := 1) (fun m hm => by
    obtain rfl : m = 0 := by omega
    have e : (⟨s.b - (0 : Nat), s.d⟩ : St) = s := St.ext'.2 ⟨by simp, rfl⟩
    have e2 : (⟨s.b + (0 : Nat), s.d⟩ : St) = s := St.ext'.2 ⟨by simp, rfl⟩
    simp only [pairOk, e, e2, h, decide_true, Bool.and_self]) (by omega)
theorem best_fold (A : List St) (hA : A.Pairwise (fun x y => lessS x y = true)) : ∀ (post pre : List St) (q : St × Int), pre ++ post = A → BestOf A pre q → BestOf A A (post.foldl (bestS A) q)
  | [], pre, q, e, h => by rw [List.append_nil] at e; subst e; exact h
  | s :: post, pre, q, e, h => by
    rw [List.foldl_cons]
    refine best_fold A hA post (pre ++ [s]) _ (by rw [List.append_assoc]; exact e) ?_
    have hs : s ∈ A := by rw [← e]; simp
    have hp := room_pos hs
    have hlt : ∀ t ∈ pre, lessS t s = true := fun t ht => by
      rw [← e, List.pairwise_append] at hA
      exact hA.2.2 t ht s (by simp)
    unfold bestS
    by_cases hc : q.2 < (roomN A s : Int) - 1
    · rw [if_pos hc]
      refine ⟨fun h => by simp at h, fun _ => ⟨by simp, rfl⟩, fun t ht => ?_, fun t ht hl => ?_⟩
      · rcases List.mem_append.1 ht with ht | ht
        · have := h.le t ht; simp only; omega
        · rw [List.mem_singleton.1 ht]; exact Int.le_refl _
      · rcases List.mem_append.1 ht with ht | ht
        · have := h.le t ht; simp only; omega
        · rw [List.mem_singleton.1 ht] at hl; exact (less_irrefl hl hl).elim
    · rw [if_neg hc]
      have hne : pre ≠ [] := fun e2 => by have := h.none e2; omega
      obtain ⟨m1, m2⟩ := h.mem hne
      refine ⟨fun h => by simp at h, fun _ => ⟨by simp [m1], m2⟩, fun t ht => ?_, fun t ht hl => ?_⟩
      · rcases List.mem_append.1 ht with ht | ht
        · exact h.le t ht
        · rw [List.mem_singleton.1 ht]; omega
      · rcases List.mem_append.1 ht with ht | ht
        · exact h.lt t ht hl
        · rw [List.mem_singleton.1 ht] at hl; exact (less_irrefl hl (hlt _ m1)).elim
theorem best_of (l : La) (p : Pk) : BestOf (aimsL l p) (aimsL l p) (bestF (aimsL l p)) :=
  best_fold _ (aims_sorted l p) _ [] _ rfl ⟨fun _ => rfl, fun h => absurd rfl h, by simp, by simp⟩
set_option maxRecDepth 100000 in
theorem lroom_j (l : La) (p : Pk) (s : St) (a : Option Addr) (cap : Nat) (hb : l.boards ≤ 40) (s1 : 1 ≤ s.b) (s2 : s.b ≤ 40) : Cv Try.prog 47 [.slice a (aimsL l p).length cap, .agg #[I s.b, I s.d]] (KSl a (aimsL l p).length cap encSt (aimsL l p)) (I ((roomN (aimsL l p) s : Int) - 1)) := by
  have hlen := aims_len l p hb
  refine Cx_of Try.func47 rfl Try.ntmps47 rfl fun w0 M0 => ?_
  refine JC_seq ?_
  refine JC_region ?_
  refine JL_step rfl rfl rfl (jo_box rfl rfl) fun b3 => ?_
  refine JL_pd rfl (det_assign rfl) ?_
  refine JL_nil ?_
  refine JE_seq ?_
  refine JC_seq ?_
  refine JC_region ?_
  refine JL_pd rfl (det_assign rfl) ?_
  refine JL_nil ?_
  refine JE_seq ?_
  refine JC_seq ?_
  refine JC_block ?_
  -- stop: loop
  refine JC_loop (γ := Nat) (I := fun n => n ≤ 41 ∧ ∀ m, m < n → pairOk (aimsL l p) s m = true) (st' := fun n => [(5, I ((n : Int) - 1)), (3, pt b3), (0, .slice a (aimsL l p).length cap)]) (H' := fun _ => [bx b3 [I s.b, I s.d]])
    (R' := fun _ => KSl a (aimsL l p).length cap encSt (aimsL l p)) (μ := fun n => 41 - n) 0 ⟨by omega, by omega⟩ (stsub_cons rfl (stsub_cons rfl (stsub_cons rfl stsub_nil))) (hsub_cons hsub_nil) Knows.know ?_
  rintro n ⟨hn, hp⟩ K hK
  have e1 : s.b - ((n : Int) - 1) - 1 = s.b - n := by omega
  have e2 : s.b + ((n : Int) - 1) + 1 = s.b + n := by omega
  refine JC_seq ?_
  refine JC_seq ?_
  refine JC_region ?_
  refine JL_pd rfl (det_move rfl) ?_
  refine JL_pd rfl (det_fieldAddr rfl fo_39_0) ?_
  refine JL_dt rfl (det_loadK rfl Try.isAgg3 rfl) ?_
  refine JL_pd rfl (det_move rfl) ?_
  refine JL_pd rfl (det_sub rfl rfl ⟨by omega, by omega⟩) ?_
  refine JL_pd rfl (det_sub rfl rfl ⟨by omega, by omega⟩) ?_
  refine JL_pd rfl (det_fieldAddr rfl fo_39_1) ?_
  refine JL_dt rfl (det_loadK rfl Try.isAgg3 rfl) ?_
  refine JL_pd rfl (det_build rfl (bld_39_0_1 _ _)) ?_
  -- stop: op  9 t15 := (call (Call (value f46) (t6 t14) (30 39)))   <0 8>   241
  rw [e1]
  refine JL_step rfl rfl rfl (jo_callv rfl rfl Try.call46 rfl (lhas_j (aimsL l p) a cap ⟨s.b - n, s.d⟩ (by omega))) fun _ => ?_
  refine JL_pd rfl (det_move rfl) ?_
  -- stop: guard 10
  refine JL_split (d0 := 16) rfl (fun h1 => ?_) (fun h1 => ?_)
  · refine JL_guard rfl rfl h1 ?_
    refine JL_pd rfl (det_move rfl) ?_
    refine JL_guard rfl rfl h1 ?_
    refine JL_pd rfl (det_fieldAddr rfl fo_39_0) ?_
    refine JL_guard rfl rfl h1 ?_
    refine JL_dt rfl (det_loadK rfl Try.isAgg3 rfl) ?_
    refine JL_guard rfl rfl h1 ?_
    refine JL_pd rfl (det_move rfl) ?_
    refine JL_guard rfl rfl h1 ?_
    refine JL_pd rfl (det_add rfl rfl ⟨by omega, by omega⟩) ?_
    refine JL_guard rfl rfl h1 ?_
    refine JL_pd rfl (det_add rfl rfl ⟨by omega, by omega⟩) ?_
    refine JL_guard rfl rfl h1 ?_
    refine JL_pd rfl (det_fieldAddr rfl fo_39_1) ?_
    refine JL_guard rfl rfl h1 ?_
    refine JL_dt rfl (det_loadK rfl Try.isAgg3 rfl) ?_
    refine JL_guard rfl rfl h1 ?_
    refine JL_pd rfl (det_build rfl (bld_39_0_1 _ _)) ?_
    refine JL_guard rfl rfl h1 ?_
    -- stop: op 20 t26 := (call (Call (value f46) (t17 t25) (30 39)))   <11 19 10 10>   241
    rw [e2]
    refine JL_step rfl rfl rfl (jo_callv rfl rfl Try.call46 rfl (lhas_j (aimsL l p) a cap ⟨s.b + n, s.d⟩ (by omega))) fun _ => ?_
    refine JL_pd rfl (det_pick_t rfl h1 rfl) ?_
    refine JL_nil ?_
    refine JE_seq ?_
    -- stop: cond
    refine JC_cond rfl (fun h2 => ?_) (fun h2 => ?_)
    · have hok : pairOk (aimsL l p) s n = true := by simp only [pairOk, h1, h2, Bool.and_self]
      have hle := pairOk_bd hb hok s1
      refine JC_skip ?_
      refine JE_seq ?_
      refine JC_block ?_
      refine JC_region ?_
      refine JL_pd rfl (det_move rfl) ?_
      refine JL_pd rfl (det_add rfl rfl ⟨by omega, by omega⟩) ?_
      refine JL_pd rfl (det_assign rfl) ?_
      refine JL_nil ?_
      refine JE_block ?_
      -- stop: end
      refine JE_round hK (n + 1) ⟨by omega, fun m hm => ?_⟩ (by omega) (stsub_consI rfl (by omega) (stsub_cons rfl (stsub_cons rfl stsub_nil))) (hsub_cons hsub_nil) Knows.know
      by_cases e : m = n
      · rw [e]; exact hok
      · exact hp m (by omega)
    · refine JC_exit ?_
      refine JE_seq_exit ?_
      refine JE_then_exit ?_
      refine JE_block_here ?_
      refine JE_seq ?_
      refine JC_seq ?_
      refine JC_region ?_
      refine JL_pd rfl (det_move rfl) ?_
      refine JL_pd rfl (det_assign rfl) ?_
      refine JL_nil ?_
      refine JE_seq ?_
      refine JC_ret ?_
      -- stop: out
      refine JE_out (.inl rfl) () (results1 Try.results47 (res_tmp rfl)) (by rw [roomN_eq hp (by simp only [pairOk, h1, h2, Bool.and_false]) (by omega)]) (List.Perm.refl _) (fun _ _ => trivial)
  · refine JL_skip rfl rfl h1 rfl ?_
    refine JL_skip rfl rfl h1 rfl ?_
    refine JL_skip rfl rfl h1 rfl ?_
    refine JL_skip rfl rfl h1 rfl ?_
    refine JL_skip rfl rfl h1 rfl ?_
    refine JL_skip rfl rfl h1 rfl ?_
    refine JL_skip rfl rfl h1 rfl ?_
    refine JL_skip rfl rfl h1 rfl ?_
    refine JL_skip rfl rfl h1 rfl ?_
    refine JL_skip rfl rfl h1 rfl ?_
    refine JL_pd rfl (det_pick_f rfl h1 rfl) ?_
    refine JL_nil ?_
    refine JE_seq ?_
    -- stop: cond
    refine JC_cond rfl (fun h2 => ?_) (fun h2 => ?_)
    · cases h2
    · refine JC_exit ?_
      refine JE_seq_exit ?_
      refine JE_then_exit ?_
      refine JE_block_here ?_
      refine JE_seq ?_
      refine JC_seq ?_
      refine JC_region ?_
      refine JL_pd rfl (det_move rfl) ?_
      refine JL_pd rfl (det_assign rfl) ?_
      refine JL_nil ?_
      refine JE_seq ?_
      refine JC_ret ?_
      -- stop: out
      refine JE_out (.inl rfl) () (results1 Try.results47 (res_tmp rfl)) (by rw [roomN_eq hp (by simp only [pairOk, h1, Bool.false_and]) (by omega)]) (List.Perm.refl _) (fun _ _ => trivial)
end Go.Proofs.Ytcfhbnfincpehaa

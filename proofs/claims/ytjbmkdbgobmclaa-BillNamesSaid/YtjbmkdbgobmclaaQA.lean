/- Own texts, laid together: B25 B26 B27 B28. Nothing is asked. -/
import Derived.Test.YtjbmkdbgobmclaaQ9
set_option linter.unusedSimpArgs false
set_option linter.unusedVariables false
/- Walks of the reference of bill: the book of messages. -/
namespace Go.Proofs.Ytjbmkdbgobmclaa
open Go.RowKit Go.Shelf

abbrev Bk := Nat → Nat → Int
def encB (b : Bk) : List Value := (List.range 3721).map fun p => I (b (p / 61) (p % 61))
theorem encB_len (b : Bk) : (encB b).length = 3721 := by unfold encB; rw [List.length_map, List.length_range]
theorem encB_get {b : Bk} {i k : Nat} (hi : i < 61) (hk : k < 61) : (encB b)[0 + i * 61 + k * 1]? = some (I (b i k)) := by
  have h : i * 61 + k < 3721 := by omega
  unfold encB
  rw [Nat.zero_add, Nat.mul_one, List.getElem?_map, List.getElem?_range h]
  simp only [Option.map_some]
  rw [show (i * 61 + k) / 61 = i from by omega, show (i * 61 + k) % 61 = k from by omega]
def upB (b : Bk) (i k : Nat) (v : Int) : Bk := fun x y => if x = i ∧ y = k then v else b x y
def bnd (b : Bk) (i k : Nat) (v : Int) : Bk := upB b i k (min (b i k) v)
theorem encB_set (b : Bk) {i k : Nat} (hi : i < 61) (hk : k < 61) (v : Int) : splice (encB b) (0 + i * 61 + k * 1) [I v] = encB (upB b i k v) := by
  rw [splice, splice]
  apply List.ext_getElem?
  intro p
  rw [List.getElem?_set]
  by_cases hp : p < 3721
  · have e1 : ∀ c : Bk, (encB c)[p]? = some (I (c (p / 61) (p % 61))) := fun c => by
      have := encB_get (b := c) (i := p / 61) (k := p % 61) (by omega) (by omega)
      rwa [show 0 + p / 61 * 61 + p % 61 * 1 = p from by omega] at this
    rw [e1, e1]
    by_cases e : 0 + i * 61 + k * 1 = p
    · rw [if_pos e, if_pos (by rw [encB_len]; omega)]
      unfold upB
      rw [if_pos ⟨by omega, by omega⟩]
    · rw [if_neg e]
      unfold upB
      rw [if_neg (by rintro ⟨a1, a2⟩; omega)]
  · have h1 : (encB (upB b i k v))[p]? = none := List.getElem?_eq_none (by rw [encB_len]; omega)
    have h2 : (encB b)[p]? = none := List.getElem?_eq_none (by rw [encB_len]; omega)
    rw [h1, h2, if_neg (by omega)]
theorem encB_cells (b : Bk) : (encB b).all (·.oneCell') = true := by
  rw [List.all_eq_true]
  intro x hx
  obtain ⟨i, _, rfl⟩ := List.mem_map.1 hx
  rfl
def isZ : Value → Bool
  | .int .i64 (.ofNat 0) => true
  | _ => false
theorem isZ_iff {v : Value} (h : isZ v = true) : v = I 0 := by
  unfold isZ at h
  split at h
  · rfl
  · cases h
set_option maxRecDepth 100000 in
theorem zc_all : (Try.zeroCells117.toList.all isZ) = true := by kernel_rfl
theorem zc_eq : Try.zeroCells117 = (encB fun _ _ => 0).toArray := by
  have h := List.eq_replicate_iff.2 ⟨(by rw [← Array.size_eq_length_toList]; exact Try.zeroCells117_size : Try.zeroCells117.toList.length = 3721), fun b hb => isZ_iff (List.all_eq_true.1 zc_all b hb)⟩
  have h2 : encB (fun _ _ => 0) = List.replicate 3721 (I 0) := List.eq_replicate_iff.2 ⟨encB_len _, fun x hx => by obtain ⟨i, _, rfl⟩ := List.mem_map.1 hx; rfl⟩
  rw [h2, ← h]
theorem bld_Book (w : World) : (Instr.build 117 #[]).run Try.prog w = .ok (.agg (encB fun _ _ => 0).toArray) w := by
  unfold Instr.build
  simp only [Sem.run_bind, Try.zeroValue117, Result.andThen_ok, Try.runUnderlying117, Try.sizeOf115, Value.cells, Instr.fill, Sem.run_pure, zc_eq]
set_option maxRecDepth 100000 in
theorem bound_j (b0 : Nat) (B : Bk) (i k : Nat) (v : Int) (hi : i < 61) (hk : k < 61) : Cx Try.prog 64 [pt b0, I i, I k, I v] [bx b0 (encB B)] KTrue (fun _ : Unit => .tuple #[]) (fun _ => [bx b0 (encB (bnd B i k v))]) (fun _ => KTrue) := by
  refine Cx_of Try.func64 rfl Try.ntmps64 rfl fun w0 M0 => ?_
  refine JC_draw [15] (by kernel_rfl) ?_
  refine JA_pd (i := 0) rfl (by kernel_rfl) rfl rfl (det_move rfl) ?_
  refine JA_pd (i := 1) rfl (by kernel_rfl) rfl rfl (det_move rfl) ?_
  refine JA_pd (i := 2) rfl (by kernel_rfl) rfl rfl (det_move rfl) ?_
  refine JA_pd (i := 3) rfl (by kernel_rfl) rfl rfl (det_move rfl) ?_
  refine JA_pd (i := 4) rfl (by kernel_rfl) rfl rfl (det_move rfl) ?_
  refine JA_pd (i := 5) rfl (by kernel_rfl) rfl rfl (det_move rfl) ?_
  refine JA_pd (i := 6) rfl (by kernel_rfl) rfl rfl (det_nilCheck rfl) ?_
  refine JA_pd (i := 7) rfl (by kernel_rfl) rfl rfl (det_indexArr (i := i) rfl rfl rfl hi Try.runUnderlying117 Try.sizeOf115) ?_
  refine JA_pd (i := 8) rfl (by kernel_rfl) rfl rfl (det_indexArr (i := k) rfl rfl rfl hk Try.runUnderlying115 Try.sizeOf3) ?_
  refine JA_dt (i := 9) rfl (by kernel_rfl) (by kernel_rfl) rfl rfl (det_loadK rfl Try.isAgg3 (encB_get hi hk)) ?_
  refine JA_pd (i := 10) rfl (by kernel_rfl) rfl rfl (det_move rfl) ?_
  refine JA_pd (i := 11) rfl (by kernel_rfl) rfl rfl (det_min rfl rfl) ?_
  refine JA_pd (i := 12) rfl (by kernel_rfl) rfl rfl (det_nilCheck rfl) ?_
  refine JA_pd (i := 13) rfl (by kernel_rfl) rfl rfl (det_indexArr (i := i) rfl rfl rfl hi Try.runUnderlying117 Try.sizeOf115) ?_
  refine JA_pd (i := 14) rfl (by kernel_rfl) rfl rfl (det_indexArr (i := k) rfl rfl rfl hk Try.runUnderlying115 Try.sizeOf3) ?_
  refine JA_tail (i := 15) (by kernel_rfl) rfl rfl rfl rfl (jo_store rfl rfl rfl (encB_set B hi hk _) Try.sizeOf3 (by rw [encB_len, Nat.ble_eq]; simp only [List.length_cons, List.length_nil]; omega) rfl) fun _ => ?_
  refine JT_done (by kernel_rfl) ?_
  -- stop: out
  refine JE_out (.inr rfl) () (results0 Try.results64 ) rfl (List.Perm.refl _) (fun _ _ => trivial)
end Go.Proofs.Ytjbmkdbgobmclaa

/- Walks of the reference of bill: what follows from messages. -/
namespace Go.Proofs.Ytjbmkdbgobmclaa
open Go.RowKit Go.Shelf

abbrev wr (x : Int) : Int := IntKind.i64.wrap x
def inf : Int := 1099511627776
def initP (n i k : Nat) : Bk := fun x y => if (x < i ∨ (x = i ∧ y < k)) ∧ y ≤ n ∧ x ≠ y then inf else 0
def chB (b : Bk) : Nat → Bk
  | 0 => b
  | i + 1 => bnd (bnd (chB b i) i (i + 1) 1000) (i + 1) i (-1)
def msgB (b : Bk) (m : Ms) : Bk := bnd (bnd (bnd (bnd b (m.no.toNat - 1) m.no.toNat m.coins) m.no.toNat (m.no.toNat - 1) (-m.coins)) 0 m.no.toNat m.total) m.no.toNat 0 (-m.total)
def msB (b : Bk) (l : List Ms) : Bk := l.foldl msgB b
def fwJ (b : Bk) (k i : Nat) : Nat → Bk
  | 0 => b
  | j + 1 => bnd (fwJ b k i j) i j (wr (fwJ b k i j i k + fwJ b k i j k j))
def fwI (b : Bk) (k N : Nat) : Nat → Bk
  | 0 => b
  | i + 1 => fwJ (fwI b k N i) k i N
def fwK (b : Bk) (N : Nat) : Nat → Bk
  | 0 => b
  | k + 1 => fwI (fwK b N k) k N N
def bk0 (l : List Ms) : Bk := msB (chB (initP (lastM l).toNat ((lastM l).toNat + 1) 0) (lastM l).toNat) l
def wkB (l : List Ms) : Bk := fwK (bk0 l) ((lastM l).toNat + 1) ((lastM l).toNat + 1)
def wkOk (l : List Ms) : Bool := (List.range ((lastM l).toNat + 1)).all fun i => !decide (wkB l i i < 0)
theorem initP_0 (n : Nat) : initP n 0 0 = fun _ _ => 0 := by
  funext x y; unfold initP; rw [if_neg (by rintro ⟨h | h, _⟩ <;> omega)]
theorem initP_set {n i k : Nat} (hk : k ≤ n) (hne : i ≠ k) : upB (initP n i k) i k inf = initP n i (k + 1) := by
  funext x y; unfold upB initP
  by_cases h : x = i ∧ y = k
  · rw [if_pos h, if_pos (by omega)]
  · rw [if_neg h]
    by_cases h2 : (x < i ∨ (x = i ∧ y < k)) ∧ y ≤ n ∧ x ≠ y
    · rw [if_pos h2, if_pos (by omega)]
    · rw [if_neg h2, if_neg (by omega)]
theorem initP_same {n i k : Nat} (he : i = k) : initP n i k = initP n i (k + 1) := by
  funext x y; unfold initP
  by_cases h2 : (x < i ∨ (x = i ∧ y < k)) ∧ y ≤ n ∧ x ≠ y
  · rw [if_pos h2, if_pos (by omega)]
  · rw [if_neg h2, if_neg (by omega)]
theorem initP_row (n i : Nat) : initP n i (n + 1) = initP n (i + 1) 0 := by
  funext x y; unfold initP
  by_cases h2 : (x < i ∨ (x = i ∧ y < n + 1)) ∧ y ≤ n ∧ x ≠ y
  · rw [if_pos h2, if_pos (by omega)]
  · rw [if_neg h2, if_neg (by omega)]
theorem msB_snoc (b : Bk) {l : List Ms} {i : Nat} (h : i < l.length) : msB b (l.take (i + 1)) = msgB (msB b (l.take i)) l[i] := by
  unfold msB; rw [take_snoc h, List.foldl_append]; rfl
theorem mfE_of {l : List Ms} (h : mfE l = 0) : l.length ≤ 30 ∧ ∀ m ∈ l, VMs m := by
  unfold mfE at h
  split at h
  · omega
  · split at h
    · omega
    · rename_i h1 h2
      exact ⟨by omega, fun m hm => msOk_iff.1 (List.all_eq_true.1 (by simpa using h2) m hm)⟩
theorem lastM_60 {l : List Ms} (hV : ∀ m ∈ l, VMs m) : lastM l ≤ 60 := by
  rcases lastM_eq (l := l) with h | ⟨m, hm, h⟩
  · omega
  · have := (hV m hm).n1; omega
set_option maxRecDepth 100000 in
set_option maxHeartbeats 4000000 in
theorem Work_j (a : Option Addr) (c : Nat) (ls : List Ms) (hl : ls.length ≤ 1000) (hV : ∀ m ∈ ls, VMs m) : Cr Try.prog 29 [.slice a ls.length c] (KSl a ls.length c encM ls) (fun b : Nat => .tuple #[pt b, .bool (wkOk ls)]) (fun b => KBox b (encB (wkB ls))) := by
  have h60 := lastM_60 hV
  have hge := lastM_0 ls
  have hLm : ∀ m ∈ ls, m.no ≤ lastM ls := fun m hm => lastM_le hm
  have hlj := Last_j a c ls hl
  unfold wkOk wkB bk0
  generalize lastM ls = L at h60 hge hLm hlj
  obtain ⟨n, rfl⟩ : ∃ n : Nat, L = n := ⟨L.toNat, by omega⟩
  rw [Int.toNat_natCast]
  refine Cx_of Try.func29 rfl Try.ntmps29 rfl fun w0 M0 => ?_
  refine JC_seq ?_
  refine JC_region ?_
  refine JL_pd rfl (det_assign rfl) ?_
  refine JL_pd rfl (det_assign rfl) ?_
  refine JL_nil ?_
  refine JE_seq ?_
  refine JC_seq ?_
  refine JC_region ?_
  refine JL_pd rfl (det_move rfl) ?_
  refine JL_step rfl rfl rfl (jo_callv rfl rfl Try.call28 rfl (hlj)) fun _ => ?_
  refine JL_pd rfl (det_assign rfl) ?_
  refine JL_nil ?_
  refine JE_seq ?_
  refine JC_seq ?_
  refine JC_region ?_
  refine JL_pd rfl (det_build (vs := []) rfl bld_Book) ?_
  refine JL_step rfl rfl rfl (jo_box rfl rfl) fun b18 => ?_
  refine JL_pd rfl (det_assign rfl) ?_
  refine JL_nil ?_
  refine JE_seq ?_
  refine JC_seq ?_
  refine JC_seq ?_
  refine JC_region ?_
  refine JL_pd rfl (det_assign rfl) ?_
  refine JL_nil ?_
  refine JE_seq ?_
  refine JC_block ?_
  -- stop: loop
  refine JC_loopF (γ := Nat) (fun i => i ≤ n + 1) (fun i => [(6, I i)]) (fun i => [bx b18 (encB (initP n i 0))]) (fun i => n + 1 - i) 0 (Nat.zero_le _) (stsub_consI rfl rfl stsub_nil) (ht_bx (by rw [initP_0]) ht_nil) ?_
  intro i hi K hK
  dsimp only [List.cons_append, List.nil_append]
  refine JC_seq ?_
  refine JC_seq ?_
  refine JC_region ?_
  refine JL_pd rfl (det_move rfl) ?_
  refine JL_pd rfl (det_move rfl) ?_
  refine JL_pd rfl (det_leq rfl rfl) ?_
  refine JL_nil ?_
  refine JE_seq ?_
  -- stop: cond
  refine JC_if rfl (fun h1 => ?_) (fun h1 => ?_)
  · have hi2 : i < n + 1 := by omega
    refine JC_skip ?_
    refine JE_seq ?_
    refine JC_seq ?_
    refine JC_block ?_
    refine JC_seq ?_
    refine JC_region ?_
    refine JL_pd rfl (det_assign rfl) ?_
    refine JL_nil ?_
    refine JE_seq ?_
    refine JC_block ?_
    -- stop: loop
    refine JC_loopF (γ := Nat) (fun k => k ≤ n + 1) (fun k => [(7, I k)]) (fun k => [bx b18 (encB (initP n i k))]) (fun k => n + 1 - k) 0 (Nat.zero_le _) (stsub_consI rfl rfl stsub_nil) (ht_bx rfl ht_nil) ?_
    intro k hk K1 hK1
    dsimp only [List.cons_append, List.nil_append]
    refine JC_seq ?_
    refine JC_seq ?_
    refine JC_region ?_
    refine JL_pd rfl (det_move rfl) ?_
    refine JL_pd rfl (det_move rfl) ?_
    refine JL_pd rfl (det_leq rfl rfl) ?_
    refine JL_nil ?_
    refine JE_seq ?_
    -- stop: cond
    refine JC_if rfl (fun h2 => ?_) (fun h2 => ?_)
    · have hk2 : k < n + 1 := by omega
      refine JC_skip ?_
      refine JE_seq ?_
      refine JC_seq ?_
      refine JC_block ?_
      refine JC_seq ?_
      refine JC_region ?_
      refine JL_pd rfl (det_move rfl) ?_
      refine JL_pd rfl (det_move rfl) ?_
      refine JL_pd rfl (det_neq rfl rfl) ?_
      refine JL_nil ?_
      refine JE_seq ?_
      -- stop: cond
      refine JC_ifn rfl (fun h3 => ?_) (fun h3 => ?_)
      · skip
        refine JC_region ?_
        refine JL_pd rfl (det_move rfl) ?_
        refine JL_pd rfl (det_move rfl) ?_
        refine JL_pd rfl (det_move rfl) ?_
        refine JL_pd rfl (det_nilCheck rfl) ?_
        refine JL_pd rfl (det_indexArr (i := i) rfl rfl rfl (by omega) Try.runUnderlying117 Try.sizeOf115) ?_
        refine JL_pd rfl (det_indexArr (i := k) rfl rfl rfl (by omega) Try.runUnderlying115 Try.sizeOf3) ?_
        refine JL_step0 rfl rfl (jo_store rfl rfl rfl (encB_set _ (by omega) (by omega) _) Try.sizeOf3 (by rw [encB_len, Nat.ble_eq]; simp only [List.length_cons, List.length_nil]; omega) rfl) fun _ => ?_
        refine JL_nil ?_
        refine JE_block ?_
        refine JE_seq ?_
        refine JC_region ?_
        refine JL_pd rfl (det_move rfl) ?_
        refine JL_pd rfl (det_add rfl rfl ⟨by omega, by omega⟩) ?_
        refine JL_pd rfl (det_assign rfl) ?_
        refine JL_nil ?_
        -- stop: end
        refine JE_roundF hK1 (k + 1) (by omega) (by omega) (stsub_consI rfl (by omega) stsub_nil) (ht_bx (congrArg encB (initP_set (by omega) (by omega))) ht_nil)
      · refine JC_skip ?_
        refine JE_block ?_
        refine JE_seq ?_
        refine JC_region ?_
        refine JL_pd rfl (det_move rfl) ?_
        refine JL_pd rfl (det_add rfl rfl ⟨by omega, by omega⟩) ?_
        refine JL_pd rfl (det_assign rfl) ?_
        refine JL_nil ?_
        -- stop: end
        refine JE_roundF hK1 (k + 1) (by omega) (by omega) (stsub_consI rfl (by omega) stsub_nil) (ht_bx (congrArg encB (initP_same (by omega))) ht_nil)
    · obtain rfl : k = n + 1 := by omega
      refine JC_exit ?_
      refine JE_seq_exit ?_
      refine JE_then_exit ?_
      refine JE_block_here ?_
      refine JE_block ?_
      refine JE_seq ?_
      refine JC_region ?_
      refine JL_pd rfl (det_move rfl) ?_
      refine JL_pd rfl (det_add rfl rfl ⟨by omega, by omega⟩) ?_
      refine JL_pd rfl (det_assign rfl) ?_
      refine JL_nil ?_
      -- stop: end
      refine JE_roundF hK (i + 1) (by omega) (by omega) (stsub_consI rfl (by omega) stsub_nil) (ht_bx (congrArg encB (initP_row n i)) ht_nil)
  · obtain rfl : i = n + 1 := by omega
    refine JC_exit ?_
    refine JE_seq_exit ?_
    refine JE_then_exit ?_
    refine JE_block_here ?_
    refine JE_seq ?_
    refine JC_seq ?_
    refine JC_seq ?_
    refine JC_region ?_
    refine JL_pd rfl (det_assign rfl) ?_
    refine JL_nil ?_
    refine JE_seq ?_
    refine JC_block ?_
    -- stop: loop
    generalize hb0 : initP n (n + 1) 0 = B0
    refine JC_loopF (γ := Nat) (fun i => i ≤ n) (fun i => [(8, I (1 + i))]) (fun i => [bx b18 (encB (chB B0 i))]) (fun i => n - i) 0 (Nat.zero_le _) (stsub_consI rfl rfl stsub_nil) (ht_bx rfl ht_nil) ?_
    intro i hi K hK
    dsimp only [List.cons_append, List.nil_append]
    refine JC_seq ?_
    refine JC_seq ?_
    refine JC_region ?_
    refine JL_pd rfl (det_move rfl) ?_
    refine JL_pd rfl (det_move rfl) ?_
    refine JL_pd rfl (det_leq rfl rfl) ?_
    refine JL_nil ?_
    refine JE_seq ?_
    -- stop: cond
    refine JC_if rfl (fun h2 => ?_) (fun h2 => ?_)
    · have hi2 : i < n := by omega
      have hbj := bound_j b18 (chB B0 i) i (i + 1) 1000 (by omega) (by omega)
      have hbj2 := bound_j b18 (bnd (chB B0 i) i (i + 1) 1000) (i + 1) i (-1) (by omega) (by omega)
      rw [show ((i + 1 : Nat) : Int) = 1 + (i : Int) from by omega] at hbj hbj2
      refine JC_skip ?_
      refine JE_seq ?_
      refine JC_seq ?_
      refine JC_block ?_
      refine JC_seq ?_
      refine JC_region ?_
      refine JL_pd rfl (det_move rfl) ?_
      refine JL_pd rfl (det_move rfl) ?_
      refine JL_pd rfl (det_sub rfl rfl ⟨by omega, by omega⟩) ?_
      refine JL_pd rfl (det_move rfl) ?_
      -- stop: op  4 t47 := (call (Call (value f64) (t43 t45 t46 1000) (44 3 3 3)))   <0 2 3>   207
      rw [show (1 + (i : Int) - 1) = (i : Int) from by omega]
      refine JL_step rfl rfl rfl (jo_callx rfl rfl Try.call64 rfl (hbj) (pick_perm)) fun x47 => ?_
      refine JL_nil ?_
      refine JE_seq ?_
      refine JC_region ?_
      refine JL_pd rfl (det_move rfl) ?_
      refine JL_pd rfl (det_move rfl) ?_
      refine JL_pd rfl (det_move rfl) ?_
      refine JL_pd rfl (det_sub rfl rfl ⟨by omega, by omega⟩) ?_
      -- stop: op  4 t52 := (call (Call (value f64) (t48 t49 t51 (neg Int instNegInt 1)) (44 3 3 3)))   <0 1 3>   208
      rw [show (1 + (i : Int) - 1) = (i : Int) from by omega]
      refine JL_step rfl rfl rfl (jo_callx rfl rfl Try.call64 rfl (hbj2) (pick_perm)) fun x52 => ?_
      refine JL_nil ?_
      refine JE_block ?_
      refine JE_seq ?_
      refine JC_region ?_
      refine JL_pd rfl (det_move rfl) ?_
      refine JL_pd rfl (det_add rfl rfl ⟨by omega, by omega⟩) ?_
      refine JL_pd rfl (det_assign rfl) ?_
      refine JL_nil ?_
      -- stop: end
      refine JE_roundF hK (i + 1) (by omega) (by omega) (stsub_consI rfl (by omega) stsub_nil) (ht_bx rfl ht_nil)
    · obtain rfl : i = n := by omega
      refine JC_exit ?_
      refine JE_seq_exit ?_
      refine JE_then_exit ?_
      refine JE_block_here ?_
      refine JE_seq ?_
      refine JC_seq ?_
      refine JC_seq ?_
      refine JC_region ?_
      refine JL_pd rfl (det_assign rfl) ?_
      refine JL_nil ?_
      refine JE_seq ?_
      refine JC_block ?_
      -- stop: loop
      generalize hb1 : chB B0 i = B1
      refine JC_loopF (γ := Nat) (fun j => j ≤ ls.length) (fun j => [(9, I j)]) (fun j => [bx b18 (encB (msB B1 (ls.take j)))]) (fun j => ls.length - j) 0 (Nat.zero_le _) (stsub_consI rfl rfl stsub_nil) (ht_bx rfl ht_nil) ?_
      intro j hj K hK
      dsimp only [List.cons_append, List.nil_append]
      refine JC_seq ?_
      refine JC_seq ?_
      refine JC_region ?_
      refine JL_pd rfl (det_move rfl) ?_
      refine JL_pd rfl (det_move rfl) ?_
      refine JL_pd rfl (det_len rfl Try.runUnderlying31) ?_
      refine JL_pd rfl (det_lss rfl rfl) ?_
      refine JL_nil ?_
      refine JE_seq ?_
      -- stop: cond
      refine JC_if rfl (fun h3 => ?_) (fun h3 => ?_)
      · have hj2 : j < ls.length := by omega
        have hm := hV _ (List.getElem_mem hj2)
        have hmL := hLm _ (List.getElem_mem hj2)
        have v1 := hm.n0
        have v2 := hm.n1
        have v3 := hm.c0
        have v4 := hm.c1
        have v5 := hm.t0
        have v6 := hm.t1
        have hsn := msB_snoc B1 hj2
        have hno : ((ls[j].no.toNat : Nat) : Int) = ls[j].no := by omega
        have hno1 : ((ls[j].no.toNat - 1 : Nat) : Int) = ls[j].no - 1 := by omega
        generalize hB : msB B1 (ls.take j) = B at hsn
        have c1 := bound_j b18 B (ls[j].no.toNat - 1) ls[j].no.toNat ls[j].coins (by omega) (by omega)
        have c2 := bound_j b18 (bnd B (ls[j].no.toNat - 1) ls[j].no.toNat ls[j].coins) ls[j].no.toNat (ls[j].no.toNat - 1) (-ls[j].coins) (by omega) (by omega)
        have c3 := bound_j b18 (bnd (bnd B (ls[j].no.toNat - 1) ls[j].no.toNat ls[j].coins) ls[j].no.toNat (ls[j].no.toNat - 1) (-ls[j].coins)) 0 ls[j].no.toNat ls[j].total (by omega) (by omega)
        have c4 := bound_j b18 (bnd (bnd (bnd B (ls[j].no.toNat - 1) ls[j].no.toNat ls[j].coins) ls[j].no.toNat (ls[j].no.toNat - 1) (-ls[j].coins)) 0 ls[j].no.toNat ls[j].total) ls[j].no.toNat 0 (-ls[j].total) (by omega) (by omega)
        rw [hno1, hno] at c1 c2
        rw [hno] at c3 c4
        refine JC_skip ?_
        refine JE_seq ?_
        refine JC_seq ?_
        refine JC_block ?_
        refine JC_seq ?_
        refine JC_region ?_
        refine JL_pd rfl (det_move rfl) ?_
        refine JL_pd rfl (det_move rfl) ?_
        refine JL_dt rfl (det_indexAddr rfl rfl (by first | rfl | omega) (by first | assumption | omega | decide) Try.runUnderlying31 Try.sizeOf74) ?_
        refine JL_dt rfl (det_loadEA rfl (by first | assumption | omega | decide) Try.isAgg74 Try.sizeOf74 rfl rfl rfl) ?_
        refine JL_step rfl rfl rfl (jo_alloc0 Try.zeroValue74 rfl) fun b10 => ?_
        refine JL_step0 rfl rfl (jo_store rfl rfl rfl (by first | (simp only [splice_norm]; done) | (simp only [splice_norm]; rfl) | rfl) Try.sizeOf74 rfl rfl) fun _ => ?_
        refine JL_nil ?_
        refine JE_seq ?_
        refine JC_seq ?_
        refine JC_region ?_
        refine JL_pd rfl (det_move rfl) ?_
        refine JL_pd rfl (det_fieldAddr rfl fo_74_0) ?_
        refine JL_dt rfl (det_loadK rfl Try.isAgg3 rfl) ?_
        refine JL_pd rfl (det_sub rfl rfl ⟨by omega, by omega⟩) ?_
        refine JL_pd rfl (det_fieldAddr rfl fo_74_0) ?_
        refine JL_dt rfl (det_loadK rfl Try.isAgg3 rfl) ?_
        refine JL_pd rfl (det_fieldAddr rfl fo_74_1) ?_
        refine JL_dt rfl (det_loadK rfl Try.isAgg3 rfl) ?_
        -- stop: op  8 t71 := (call (Call (value f64) (t63 t66 t68 t70) (44 3 3 3)))   <0 3 5 7>   212
        refine JL_step rfl rfl rfl (jo_callx rfl rfl Try.call64 rfl (c1) (pick_perm)) fun x71 => ?_
        refine JL_nil ?_
        refine JE_seq ?_
        refine JC_seq ?_
        refine JC_region ?_
        refine JL_pd rfl (det_move rfl) ?_
        refine JL_pd rfl (det_fieldAddr rfl fo_74_0) ?_
        refine JL_dt rfl (det_loadK rfl Try.isAgg3 rfl) ?_
        refine JL_pd rfl (det_fieldAddr rfl fo_74_0) ?_
        refine JL_dt rfl (det_loadK rfl Try.isAgg3 rfl) ?_
        refine JL_pd rfl (det_sub rfl rfl ⟨by omega, by omega⟩) ?_
        refine JL_pd rfl (det_fieldAddr rfl fo_74_1) ?_
        refine JL_dt rfl (det_loadK rfl Try.isAgg3 rfl) ?_
        refine JL_pd rfl (det_neg rfl ⟨by omega, by omega⟩) ?_
        -- stop: op  9 t81 := (call (Call (value f64) (t72 t74 t77 t80) (44 3 3 3)))   <0 2 5 8>   213
        refine JL_step rfl rfl rfl (jo_callx rfl rfl Try.call64 rfl (c2) (pick_perm)) fun x81 => ?_
        refine JL_nil ?_
        refine JE_seq ?_
        refine JC_seq ?_
        refine JC_region ?_
        refine JL_pd rfl (det_move rfl) ?_
        refine JL_pd rfl (det_fieldAddr rfl fo_74_0) ?_
        refine JL_dt rfl (det_loadK rfl Try.isAgg3 rfl) ?_
        refine JL_pd rfl (det_fieldAddr rfl fo_74_2) ?_
        refine JL_dt rfl (det_loadK rfl Try.isAgg3 rfl) ?_
        -- stop: op  5 t87 := (call (Call (value f64) (t82 0 t84 t86) (44 3 3 3)))   <0 2 4>   214
        refine JL_step rfl rfl rfl (jo_callx rfl rfl Try.call64 rfl (c3) (pick_perm)) fun x87 => ?_
        refine JL_nil ?_
        refine JE_seq ?_
        refine JC_region ?_
        refine JL_pd rfl (det_move rfl) ?_
        refine JL_pd rfl (det_fieldAddr rfl fo_74_0) ?_
        refine JL_dt rfl (det_loadK rfl Try.isAgg3 rfl) ?_
        refine JL_pd rfl (det_fieldAddr rfl fo_74_2) ?_
        refine JL_dt rfl (det_loadK rfl Try.isAgg3 rfl) ?_
        refine JL_pd rfl (det_neg rfl ⟨by omega, by omega⟩) ?_
        -- stop: op  6 t94 := (call (Call (value f64) (t88 t90 0 t93) (44 3 3 3)))   <0 2 5>   215
        refine JL_step rfl rfl rfl (jo_callx rfl rfl Try.call64 rfl (c4) (pick_perm)) fun x94 => ?_
        refine JL_nil ?_
        refine JE_block ?_
        refine JE_seq ?_
        refine JC_region ?_
        refine JL_pd rfl (det_move rfl) ?_
        refine JL_pd rfl (det_add rfl rfl ⟨by omega, by omega⟩) ?_
        refine JL_pd rfl (det_assign rfl) ?_
        refine JL_nil ?_
        -- stop: end
        refine JE_roundF hK (j + 1) (by omega) (by omega) (stsub_consI rfl (by omega) stsub_nil) (ht_bx (by rw [hsn]; rfl) ht_nil)
      · obtain rfl : j = ls.length := by omega
        rw [List.take_length]
        generalize hb2 : msB B1 ls = B2
        refine JC_exit ?_
        refine JE_seq_exit ?_
        refine JE_then_exit ?_
        refine JE_block_here ?_
        refine JE_seq ?_
        refine JC_seq ?_
        refine JC_seq ?_
        refine JC_region ?_
        refine JL_pd rfl (det_assign rfl) ?_
        refine JL_nil ?_
        refine JE_seq ?_
        refine JC_block ?_
        -- stop: loop
        refine JC_loopF (γ := Nat) (fun k => k ≤ i + 1) (fun k => [(11, I k)]) (fun k => [bx b18 (encB (fwK B2 (i + 1) k))]) (fun k => i + 1 - k) 0 (Nat.zero_le _) (stsub_consI rfl rfl stsub_nil) (ht_bx rfl ht_nil) ?_
        intro k hk K hK
        dsimp only [List.cons_append, List.nil_append]
        refine JC_seq ?_
        refine JC_seq ?_
        refine JC_region ?_
        refine JL_pd rfl (det_move rfl) ?_
        refine JL_pd rfl (det_move rfl) ?_
        refine JL_pd rfl (det_leq rfl rfl) ?_
        refine JL_nil ?_
        refine JE_seq ?_
        -- stop: cond
        refine JC_if rfl (fun h4 => ?_) (fun h4 => ?_)
        · have hk2 : k < i + 1 := by omega
          refine JC_skip ?_
          refine JE_seq ?_
          refine JC_seq ?_
          refine JC_block ?_
          refine JC_seq ?_
          refine JC_region ?_
          refine JL_pd rfl (det_assign rfl) ?_
          refine JL_nil ?_
          refine JE_seq ?_
          refine JC_block ?_
          -- stop: loop
          have hsk : fwK B2 (i + 1) (k + 1) = fwI (fwK B2 (i + 1) k) k (i + 1) (i + 1) := rfl
          generalize hb3 : fwK B2 (i + 1) k = B3 at hsk
          refine JC_loopF (γ := Nat) (fun p => p ≤ i + 1) (fun p => [(12, I p)]) (fun p => [bx b18 (encB (fwI B3 k (i + 1) p))]) (fun p => i + 1 - p) 0 (Nat.zero_le _) (stsub_consI rfl rfl stsub_nil) (ht_bx rfl ht_nil) ?_
          intro p hp K1 hK1
          dsimp only [List.cons_append, List.nil_append]
          refine JC_seq ?_
          refine JC_seq ?_
          refine JC_region ?_
          refine JL_pd rfl (det_move rfl) ?_
          refine JL_pd rfl (det_move rfl) ?_
          refine JL_pd rfl (det_leq rfl rfl) ?_
          refine JL_nil ?_
          refine JE_seq ?_
          -- stop: cond
          refine JC_if rfl (fun h5 => ?_) (fun h5 => ?_)
          · have hp2 : p < i + 1 := by omega
            refine JC_skip ?_
            refine JE_seq ?_
            refine JC_seq ?_
            refine JC_block ?_
            refine JC_seq ?_
            refine JC_region ?_
            refine JL_pd rfl (det_assign rfl) ?_
            refine JL_nil ?_
            refine JE_seq ?_
            refine JC_block ?_
            -- stop: loop
            have hsp : fwI B3 k (i + 1) (p + 1) = fwJ (fwI B3 k (i + 1) p) k p (i + 1) := rfl
            generalize hb4 : fwI B3 k (i + 1) p = B4 at hsp
            refine JC_loopF (γ := Nat) (fun q => q ≤ i + 1) (fun q => [(13, I q)]) (fun q => [bx b18 (encB (fwJ B4 k p q))]) (fun q => i + 1 - q) 0 (Nat.zero_le _) (stsub_consI rfl rfl stsub_nil) (ht_bx rfl ht_nil) ?_
            intro q hq K2 hK2
            dsimp only [List.cons_append, List.nil_append]
            refine JC_seq ?_
            refine JC_seq ?_
            refine JC_region ?_
            refine JL_pd rfl (det_move rfl) ?_
            refine JL_pd rfl (det_move rfl) ?_
            refine JL_pd rfl (det_leq rfl rfl) ?_
            refine JL_nil ?_
            refine JE_seq ?_
            -- stop: cond
            refine JC_if rfl (fun h6 => ?_) (fun h6 => ?_)
            · have hq2 : q < i + 1 := by omega
              have hsq : fwJ B4 k p (q + 1) = bnd (fwJ B4 k p q) p q (wr (fwJ B4 k p q p k + fwJ B4 k p q k q)) := rfl
              generalize hb5 : fwJ B4 k p q = B5 at hsq
              have c5 := bound_j b18 B5 p q (wr (B5 p k + B5 k q)) (by omega) (by omega)
              refine JC_skip ?_
              refine JE_seq ?_
              refine JC_seq ?_
              refine JC_block ?_
              refine JC_draw [18] (by kernel_rfl) ?_
              refine JA_pd (i := 0) rfl (by kernel_rfl) rfl rfl (det_move rfl) ?_
              refine JA_pd (i := 1) rfl (by kernel_rfl) rfl rfl (det_move rfl) ?_
              refine JA_pd (i := 2) rfl (by kernel_rfl) rfl rfl (det_move rfl) ?_
              refine JA_pd (i := 3) rfl (by kernel_rfl) rfl rfl (det_move rfl) ?_
              refine JA_pd (i := 4) rfl (by kernel_rfl) rfl rfl (det_move rfl) ?_
              refine JA_pd (i := 5) rfl (by kernel_rfl) rfl rfl (det_move rfl) ?_
              refine JA_pd (i := 6) rfl (by kernel_rfl) rfl rfl (det_nilCheck rfl) ?_
              refine JA_pd (i := 7) rfl (by kernel_rfl) rfl rfl (det_indexArr (i := p) rfl rfl rfl (by omega) Try.runUnderlying117 Try.sizeOf115) ?_
              refine JA_pd (i := 8) rfl (by kernel_rfl) rfl rfl (det_indexArr (i := k) rfl rfl rfl (by omega) Try.runUnderlying115 Try.sizeOf3) ?_
              refine JA_dt (i := 9) rfl (by kernel_rfl) (by kernel_rfl) rfl rfl (det_loadK rfl Try.isAgg3 (encB_get (by omega) (by omega))) ?_
              refine JA_pd (i := 10) rfl (by kernel_rfl) rfl rfl (det_move rfl) ?_
              refine JA_pd (i := 11) rfl (by kernel_rfl) rfl rfl (det_move rfl) ?_
              refine JA_pd (i := 12) rfl (by kernel_rfl) rfl rfl (det_move rfl) ?_
              refine JA_pd (i := 13) rfl (by kernel_rfl) rfl rfl (det_nilCheck rfl) ?_
              refine JA_pd (i := 14) rfl (by kernel_rfl) rfl rfl (det_indexArr (i := k) rfl rfl rfl (by omega) Try.runUnderlying117 Try.sizeOf115) ?_
              refine JA_pd (i := 15) rfl (by kernel_rfl) rfl rfl (det_indexArr (i := q) rfl rfl rfl (by omega) Try.runUnderlying115 Try.sizeOf3) ?_
              refine JA_dt (i := 16) rfl (by kernel_rfl) (by kernel_rfl) rfl rfl (det_loadK rfl Try.isAgg3 (encB_get (by omega) (by omega))) ?_
              refine JA_pd (i := 17) rfl (by kernel_rfl) rfl rfl (det_addR (wr (B5 p k + B5 k q)) rfl rfl rfl) ?_
              -- stop: op 18 t128 := (call (Call (value f64) (t110 t111 t112 t127) (44 3 3 3)))   <0 1 2 17>   220
              refine JA_tail (i := 18) (by kernel_rfl) rfl rfl rfl rfl (jo_callx rfl rfl Try.call64 rfl (c5) (pick_perm)) fun x128 => ?_
              refine JT_done (by kernel_rfl) ?_
              refine JE_block ?_
              refine JE_seq ?_
              refine JC_region ?_
              refine JL_pd rfl (det_move rfl) ?_
              refine JL_pd rfl (det_add rfl rfl ⟨by omega, by omega⟩) ?_
              refine JL_pd rfl (det_assign rfl) ?_
              refine JL_nil ?_
              -- stop: end
              refine JE_roundF hK2 (q + 1) (by omega) (by omega) (stsub_consI rfl (by omega) stsub_nil) (ht_bx (by rw [hsq]) ht_nil)
            · obtain rfl : q = i + 1 := by omega
              refine JC_exit ?_
              refine JE_seq_exit ?_
              refine JE_then_exit ?_
              refine JE_block_here ?_
              refine JE_block ?_
              refine JE_seq ?_
              refine JC_region ?_
              refine JL_pd rfl (det_move rfl) ?_
              refine JL_pd rfl (det_add rfl rfl ⟨by omega, by omega⟩) ?_
              refine JL_pd rfl (det_assign rfl) ?_
              refine JL_nil ?_
              -- stop: end
              refine JE_roundF hK1 (p + 1) (by omega) (by omega) (stsub_consI rfl (by omega) stsub_nil) (ht_bx (by rw [hsp]) ht_nil)
          · obtain rfl : p = i + 1 := by omega
            refine JC_exit ?_
            refine JE_seq_exit ?_
            refine JE_then_exit ?_
            refine JE_block_here ?_
            refine JE_block ?_
            refine JE_seq ?_
            refine JC_region ?_
            refine JL_pd rfl (det_move rfl) ?_
            refine JL_pd rfl (det_add rfl rfl ⟨by omega, by omega⟩) ?_
            refine JL_pd rfl (det_assign rfl) ?_
            refine JL_nil ?_
            -- stop: end
            refine JE_roundF hK (k + 1) (by omega) (by omega) (stsub_consI rfl (by omega) stsub_nil) (ht_bx (by rw [hsk]) ht_nil)
        · obtain rfl : k = i + 1 := by omega
          generalize hb6 : fwK B2 (i + 1) (i + 1) = B6
          refine JC_exit ?_
          refine JE_seq_exit ?_
          refine JE_then_exit ?_
          refine JE_block_here ?_
          refine JE_seq ?_
          refine JC_seq ?_
          refine JC_seq ?_
          refine JC_region ?_
          refine JL_pd rfl (det_assign rfl) ?_
          refine JL_nil ?_
          refine JE_seq ?_
          refine JC_block ?_
          -- stop: loop
          refine JC_loopF (γ := Nat) (fun k => k ≤ i + 1 ∧ (List.range k).all (fun x => !decide (B6 x x < 0)) = true) (fun k => [(14, I k)]) (fun _ => []) (fun k => i + 1 - k) 0 ⟨Nat.zero_le _, rfl⟩ (stsub_consI rfl rfl stsub_nil) ht_nil ?_
          rintro k ⟨hk, ha⟩ K1 hK1
          dsimp only [List.cons_append, List.nil_append]
          refine JC_seq ?_
          refine JC_seq ?_
          refine JC_region ?_
          refine JL_pd rfl (det_move rfl) ?_
          refine JL_pd rfl (det_move rfl) ?_
          refine JL_pd rfl (det_leq rfl rfl) ?_
          refine JL_nil ?_
          refine JE_seq ?_
          -- stop: cond
          refine JC_if rfl (fun h5 => ?_) (fun h5 => ?_)
          · have hk2 : k < i + 1 := by omega
            refine JC_skip ?_
            refine JE_seq ?_
            refine JC_seq ?_
            refine JC_block ?_
            refine JC_seq ?_
            refine JC_region ?_
            refine JL_pd rfl (det_move rfl) ?_
            refine JL_pd rfl (det_move rfl) ?_
            refine JL_pd rfl (det_move rfl) ?_
            refine JL_pd rfl (det_nilCheck rfl) ?_
            refine JL_pd rfl (det_indexArr (i := k) rfl rfl rfl (by omega) Try.runUnderlying117 Try.sizeOf115) ?_
            refine JL_pd rfl (det_indexArr (i := k) rfl rfl rfl (by omega) Try.runUnderlying115 Try.sizeOf3) ?_
            refine JL_dt rfl (det_loadK rfl Try.isAgg3 (encB_get (by omega) (by omega))) ?_
            refine JL_pd rfl (det_lss rfl rfl) ?_
            refine JL_nil ?_
            refine JE_seq ?_
            -- stop: cond
            refine JC_if rfl (fun h6 => ?_) (fun h6 => ?_)
            · refine JC_seq ?_
              refine JC_region ?_
              refine JL_pd rfl (det_move rfl) ?_
              refine JL_pd rfl (det_assign rfl) ?_
              refine JL_pd rfl (det_assign rfl) ?_
              refine JL_nil ?_
              refine JE_seq ?_
              refine JC_ret ?_
              refine JE_block_ret ?_
              refine JE_seq_ret ?_
              refine JE_then_ret ?_
              refine JE_block_ret ?_
              refine JE_seq_ret ?_
              -- stop: out
              refine JE_keep b18 noFp ?_
              refine JE_out (.inl rfl) b18 (results2 Try.results29 (res_tmp rfl) (res_tmp rfl)) (by rw [List.all_eq_false.2 ⟨k, List.mem_range.2 hk2, by rw [decide_eq_true h6]; decide⟩]) (List.Perm.refl _) (fun w h => h.1)
            · refine JC_skip ?_
              refine JE_block ?_
              refine JE_seq ?_
              refine JC_region ?_
              refine JL_pd rfl (det_move rfl) ?_
              refine JL_pd rfl (det_add rfl rfl ⟨by omega, by omega⟩) ?_
              refine JL_pd rfl (det_assign rfl) ?_
              refine JL_nil ?_
              -- stop: end
              refine JE_roundF hK1 (k + 1) ⟨by omega, by rw [List.range_succ, List.all_append, ha]; simp; omega⟩ (by omega) (stsub_consI rfl (by omega) stsub_nil) ht_nil
          · obtain rfl : k = i + 1 := by omega
            refine JC_exit ?_
            refine JE_seq_exit ?_
            refine JE_then_exit ?_
            refine JE_block_here ?_
            refine JE_seq ?_
            refine JC_seq ?_
            refine JC_region ?_
            refine JL_pd rfl (det_move rfl) ?_
            refine JL_pd rfl (det_assign rfl) ?_
            refine JL_pd rfl (det_assign rfl) ?_
            refine JL_nil ?_
            refine JE_seq ?_
            refine JC_ret ?_
            -- stop: out
            refine JE_keep b18 noFp ?_
            refine JE_out (.inl rfl) b18 (results2 Try.results29 (res_tmp rfl) (res_tmp rfl)) (by rw [ha]) (List.Perm.refl _) (fun w h => h.1)
end Go.Proofs.Ytjbmkdbgobmclaa

/- Bill, plain: what follows from messages, added up along all ways. -/
namespace Go.Proofs.Ytjbmkdbgobmclaa
open Go.RowKit Go.Shelf

theorem bnd_le (b : Bk) (i k : Nat) (v : Int) (x y : Nat) : bnd b i k v x y ≤ b x y := by
  unfold bnd upB
  split
  · rename_i h; obtain ⟨rfl, rfl⟩ := h; exact Int.min_le_left _ _
  · exact Int.le_refl _
theorem bnd_at (b : Bk) (i k : Nat) (v : Int) : bnd b i k v i k ≤ v := by
  unfold bnd upB
  rw [if_pos ⟨rfl, rfl⟩]; exact Int.min_le_right _ _
theorem bnd_ge {b : Bk} {i k : Nat} {v w : Int} {x y : Nat} (h : w ≤ b x y) (h2 : x = i → y = k → w ≤ v) : w ≤ bnd b i k v x y := by
  unfold bnd upB
  split
  · rename_i e; obtain ⟨rfl, rfl⟩ := e; have := h2 rfl rfl; omega
  · exact h
theorem fwJ_le (b : Bk) (k i : Nat) : ∀ j x y, fwJ b k i j x y ≤ b x y
  | 0, x, y => Int.le_refl _
  | j + 1, x, y => Int.le_trans (bnd_le _ _ _ _ x y) (fwJ_le b k i j x y)
theorem fwI_le (b : Bk) (k N : Nat) : ∀ i x y, fwI b k N i x y ≤ b x y
  | 0, x, y => Int.le_refl _
  | i + 1, x, y => Int.le_trans (fwJ_le _ _ _ _ x y) (fwI_le b k N i x y)
theorem fwK_step (b : Bk) (N k x y : Nat) : fwK b N (k + 1) x y ≤ fwK b N k x y := fwI_le _ _ _ _ x y
theorem fwK_mono (b : Bk) (N x y k : Nat) : ∀ d, fwK b N (k + d) x y ≤ fwK b N k x y
  | 0 => Int.le_refl _
  | d + 1 => Int.le_trans (fwK_step b N (k + d) x y) (fwK_mono b N x y k d)
def phase (b : Bk) (k : Nat) : Bk := fun i j => min (b i j) (b i k + b k j)
structure Tame (b : Bk) (k N : Nat) : Prop where
  kN : k < N
  d : 0 ≤ b k k
  bd : ∀ i j, i < N → j < N → -2199023255552 ≤ b i j ∧ b i j ≤ 1099511627776
theorem wr_ok {x : Int} (h : -9223372036854775808 ≤ x ∧ x ≤ 9223372036854775807) : wr x = x := i64_wrap h
theorem fwJ_eq {b c : Bk} {k N i : Nat} (h : Tame b k N) (hi : i < N) (hc : ∀ x y, c x y = if x < i ∧ y < N then phase b k x y else b x y) : ∀ j, j ≤ N → ∀ x y, fwJ c k i j x y = if x = i ∧ y < j then phase b k i y else c x y
  | 0, _, x, y => by rw [if_neg (by omega)]; rfl
  | j + 1, hj, x, y => by
    have ih := fwJ_eq h hi hc j (by omega)
    have e1 : fwJ c k i j i j = b i j := by rw [ih, if_neg (by omega), hc, if_neg (by omega)]
    have e2 : fwJ c k i j i k = b i k := by
      rw [ih]
      by_cases hk : k < j
      · rw [if_pos ⟨rfl, hk⟩]; unfold phase; have := h.d; omega
      · rw [if_neg (by omega), hc, if_neg (by omega)]
    have e3 : fwJ c k i j k j = b k j := by
      rw [ih, if_neg (by omega), hc]
      by_cases hk : k < i
      · rw [if_pos ⟨hk, by omega⟩]; unfold phase; have := h.d; omega
      · rw [if_neg (by omega)]
    have b1 := h.bd i k hi h.kN
    have b2 := h.bd k j h.kN (by omega)
    show bnd (fwJ c k i j) i j (wr (fwJ c k i j i k + fwJ c k i j k j)) x y = _
    unfold bnd upB
    rw [e1, e2, e3, wr_ok (by omega)]
    by_cases e : x = i ∧ y = j
    · obtain ⟨rfl, rfl⟩ := e
      rw [if_pos ⟨rfl, rfl⟩, if_pos ⟨rfl, by omega⟩]; rfl
    · rw [if_neg e, ih]
      by_cases e4 : x = i ∧ y < j
      · rw [if_pos e4, if_pos ⟨e4.1, by omega⟩]
      · rw [if_neg e4, if_neg (by omega)]
theorem fwI_eq {b : Bk} {k N : Nat} (h : Tame b k N) : ∀ i, i ≤ N → ∀ x y, fwI b k N i x y = if x < i ∧ y < N then phase b k x y else b x y
  | 0, _, x, y => by rw [if_neg (by omega)]; rfl
  | i + 1, hi, x, y => by
    have ih := fwI_eq h i (by omega)
    show fwJ (fwI b k N i) k i N x y = _
    rw [fwJ_eq h (by omega) ih N (Nat.le_refl _) x y, ih]
    by_cases e : x = i ∧ y < N
    · rw [if_pos e, if_pos ⟨by omega, e.2⟩, e.1]
    · rw [if_neg e]
      by_cases e2 : x < i ∧ y < N
      · rw [if_pos e2, if_pos ⟨by omega, e2.2⟩]
      · rw [if_neg e2, if_neg (by omega)]
theorem fw_phase {b : Bk} {k N : Nat} (h : Tame b k N) {x y : Nat} (hx : x < N) (hy : y < N) : fwI b k N N x y = phase b k x y := by
  rw [fwI_eq h N (Nat.le_refl _), if_pos ⟨hx, hy⟩]
def Kept (N : Nat) (b : Bk) (S : Nat → Int) : Prop := ∀ i j, i < N → j < N → S j - S i ≤ b i j
def Under (N : Nat) (b : Bk) : Prop := ∀ i j, i < N → j < N → b i j ≤ 1099511627776
theorem fwK_kept {N : Nat} {b0 : Bk} {S : Nat → Int} (hS : ∀ i, i < N → 0 ≤ S i ∧ S i ≤ 60000) (hk : Kept N b0 S) (hu : Under N b0) : ∀ k, k ≤ N → Kept N (fwK b0 N k) S ∧ Under N (fwK b0 N k)
  | 0, _ => ⟨hk, hu⟩
  | k + 1, hkN => by
    obtain ⟨i1, i2⟩ := fwK_kept hS hk hu k (by omega)
    have ht : Tame (fwK b0 N k) k N := ⟨by omega, by have := i1 k k (by omega) (by omega); omega, fun i j hi hj => ⟨by have := i1 i j hi hj; have := hS i hi; have := hS j hj; omega, i2 i j hi hj⟩⟩
    refine ⟨fun i j hi hj => ?_, fun i j hi hj => ?_⟩
    · show _ ≤ fwI (fwK b0 N k) k N N i j
      rw [fw_phase ht hi hj]
      have h1 := i1 i j hi hj
      have h2 := i1 i k hi (by omega)
      have h3 := i1 k j (by omega) hj
      unfold phase
      omega
    · exact Int.le_trans (fwK_step b0 N k i j) (i2 i j hi hj)
structure Closed (N K : Nat) (b : Bk) : Prop where
  tri : ∀ i j k, i < N → j < N → k < K → b i j ≤ b i k + b k j
  up : Under N b
  lo : ∀ i j, i < N → j < N → -2199023255552 ≤ b i j
theorem fwK_closed {N : Nat} {b0 : Bk} (hu : Under N b0) (hl : ∀ i j, i < N → j < N → -2199023255552 ≤ b0 i j) (hd : ∀ i, i < N → 0 ≤ fwK b0 N N i i) : ∀ k, k ≤ N → Closed N k (fwK b0 N k)
  | 0, _ => ⟨fun _ _ _ _ _ h => by omega, hu, hl⟩
  | k + 1, hkN => by
    have ih := fwK_closed hu hl hd k (by omega)
    have hdk : ∀ K, K ≤ N → ∀ i, i < N → 0 ≤ fwK b0 N K i i := fun K hK i hi => by
      have := fwK_mono b0 N i i K (N - K)
      rw [show K + (N - K) = N from by omega] at this
      exact Int.le_trans (hd i hi) this
    have ht : Tame (fwK b0 N k) k N := ⟨by omega, hdk k (by omega) k (by omega), fun i j hi hj => ⟨ih.lo i j hi hj, ih.up i j hi hj⟩⟩
    have hp : ∀ i j, i < N → j < N → fwK b0 N (k + 1) i j = phase (fwK b0 N k) k i j := fun i j hi hj => fw_phase ht hi hj
    have hd2 := hdk (k + 1) hkN
    have hik : ∀ i, i < N → fwK b0 N (k + 1) i k = fwK b0 N k i k := fun i hi => by rw [hp i k hi (by omega)]; unfold phase; have := ht.d; omega
    have hkj : ∀ j, j < N → fwK b0 N (k + 1) k j = fwK b0 N k k j := fun j hj => by rw [hp k j (by omega) hj]; unfold phase; have := ht.d; omega
    have hup : Under N (fwK b0 N (k + 1)) := fun i j hi hj => Int.le_trans (fwK_step b0 N k i j) (ih.up i j hi hj)
    have htri : ∀ i j q, i < N → j < N → q < k + 1 → fwK b0 N (k + 1) i j ≤ fwK b0 N (k + 1) i q + fwK b0 N (k + 1) q j := fun i j q hi hj hq => by
      by_cases e : q = k
      · subst e
        rw [hik i hi, hkj j hj, hp i j hi hj]
        unfold phase
        omega
      · rw [hp i j hi hj, hp i q hi (by omega), hp q j (by omega) hj]
        have c1 := ih.tri i j q hi hj (by omega)
        have c2 := ih.tri k j q (by omega) hj (by omega)
        have c3 := ih.tri i k q hi (by omega) (by omega)
        have c4 := ih.tri k k q (by omega) (by omega) (by omega)
        have c5 := ht.d
        unfold phase
        omega
    refine ⟨htri, hup, fun i j hi hj => ?_⟩
    have l1 : -1099511627776 ≤ fwK b0 N k i k := by
      have q1 := htri i i k hi hi (by omega)
      have q2 := hup k i (by omega) hi
      have q3 := hd2 i hi
      rw [hik i hi] at q1
      omega
    have l2 : -1099511627776 ≤ fwK b0 N k k j := by
      have q1 := htri j j k hj hj (by omega)
      have q2 := hup j k hj (by omega)
      have q3 := hd2 j hj
      rw [hkj j hj] at q1
      omega
    have l3 := ih.lo i j hi hj
    rw [hp i j hi hj]
    unfold phase
    omega
/-- What was taken up to each sale, as messages tell. -/
structure Pot (l : List Ms) (n : Nat) (S : Nat → Int) : Prop where
  st : ∀ i, i < n → 1 ≤ S (i + 1) - S i ∧ S (i + 1) - S i ≤ 1000
  co : ∀ m ∈ l, S m.no.toNat - S (m.no.toNat - 1) = m.coins
  tot : ∀ m ∈ l, S m.no.toNat - S 0 = m.total
theorem chB_kept {N n : Nat} {b : Bk} {S : Nat → Int} (hst : ∀ i, i < n → 1 ≤ S (i + 1) - S i ∧ S (i + 1) - S i ≤ 1000) (h : Kept N b S) : ∀ i, i ≤ n → Kept N (chB b i) S
  | 0, _ => h
  | i + 1, hi => fun x y hx hy => by
    have h1 := chB_kept hst h i (by omega) x y hx hy
    have h2 := hst i (by omega)
    exact bnd_ge (bnd_ge h1 fun e1 e2 => by subst e1 e2; omega) fun e1 e2 => by subst e1 e2; omega
theorem msgB_kept {N : Nat} {b : Bk} {S : Nat → Int} {m : Ms} (h1 : S m.no.toNat - S (m.no.toNat - 1) = m.coins) (h2 : S m.no.toNat - S 0 = m.total) (h : Kept N b S) : Kept N (msgB b m) S := fun x y hx hy => by
  have h0 := h x y hx hy
  unfold msgB
  exact bnd_ge (bnd_ge (bnd_ge (bnd_ge h0 fun e1 e2 => by rw [e1, e2]; omega) fun e1 e2 => by rw [e1, e2]; omega) fun e1 e2 => by rw [e1, e2]; omega) fun e1 e2 => by rw [e1, e2]; omega
theorem msB_kept {N : Nat} {S : Nat → Int} : ∀ (l : List Ms) (b : Bk), (∀ m ∈ l, S m.no.toNat - S (m.no.toNat - 1) = m.coins) → (∀ m ∈ l, S m.no.toNat - S 0 = m.total) → Kept N b S → Kept N (msB b l) S
  | [], b, _, _, h => h
  | m :: l, b, h1, h2, h => msB_kept l (msgB b m) (fun x hx => h1 x (by simp [hx])) (fun x hx => h2 x (by simp [hx])) (msgB_kept (h1 m (by simp)) (h2 m (by simp)) h)
theorem msgB_le (b : Bk) (m : Ms) (x y : Nat) : msgB b m x y ≤ b x y := by
  unfold msgB
  exact Int.le_trans (bnd_le _ _ _ _ _ _) (Int.le_trans (bnd_le _ _ _ _ _ _) (Int.le_trans (bnd_le _ _ _ _ _ _) (bnd_le _ _ _ _ _ _)))
theorem msB_le (x y : Nat) : ∀ (l : List Ms) (b : Bk), msB b l x y ≤ b x y
  | [], b => Int.le_refl _
  | m :: l, b => Int.le_trans (msB_le x y l (msgB b m)) (msgB_le b m x y)
theorem msB_at : ∀ (l : List Ms) (b : Bk) (m : Ms), m ∈ l → msB b l (m.no.toNat - 1) m.no.toNat ≤ m.coins ∧ msB b l m.no.toNat (m.no.toNat - 1) ≤ -m.coins ∧ msB b l 0 m.no.toNat ≤ m.total ∧ msB b l m.no.toNat 0 ≤ -m.total
  | x :: l, b, m, hm => by
    rcases List.mem_cons.1 hm with rfl | hm
    · have q := fun i k => msB_le i k l (msgB b m)
      have e : msB b (m :: l) = msB (msgB b m) l := rfl
      rw [e]
      refine ⟨Int.le_trans (q _ _) ?_, Int.le_trans (q _ _) ?_, Int.le_trans (q _ _) ?_, Int.le_trans (q _ _) ?_⟩ <;> unfold msgB
      · exact Int.le_trans (bnd_le _ _ _ _ _ _) (Int.le_trans (bnd_le _ _ _ _ _ _) (Int.le_trans (bnd_le _ _ _ _ _ _) (bnd_at _ _ _ _)))
      · exact Int.le_trans (bnd_le _ _ _ _ _ _) (Int.le_trans (bnd_le _ _ _ _ _ _) (bnd_at _ _ _ _))
      · exact Int.le_trans (bnd_le _ _ _ _ _ _) (bnd_at _ _ _ _)
      · exact bnd_at _ _ _ _
    · exact msB_at l (msgB b x) m hm
theorem chB_le (b : Bk) (x y : Nat) : ∀ i, chB b i x y ≤ b x y
  | 0 => Int.le_refl _
  | i + 1 => Int.le_trans (bnd_le _ _ _ _ _ _) (Int.le_trans (bnd_le _ _ _ _ _ _) (chB_le b x y i))
theorem chB_at (b : Bk) : ∀ n i, i < n → chB b n i (i + 1) ≤ 1000 ∧ chB b n (i + 1) i ≤ -1
  | n + 1, i, hi => by
    by_cases e : i = n
    · subst e
      exact ⟨Int.le_trans (bnd_le _ _ _ _ _ _) (bnd_at _ _ _ _), bnd_at _ _ _ _⟩
    · obtain ⟨h1, h2⟩ := chB_at b n i (by omega)
      exact ⟨Int.le_trans (bnd_le _ _ _ _ _ _) (Int.le_trans (bnd_le _ _ _ _ _ _) h1), Int.le_trans (bnd_le _ _ _ _ _ _) (Int.le_trans (bnd_le _ _ _ _ _ _) h2)⟩
theorem chB_lo {b : Bk} {x y : Nat} (h : -60000 ≤ b x y) : ∀ i, -60000 ≤ chB b i x y
  | 0 => h
  | i + 1 => bnd_ge (bnd_ge (chB_lo h i) fun _ _ => by omega) fun _ _ => by omega
theorem msB_lo {x y : Nat} : ∀ (l : List Ms) (b : Bk), (∀ m ∈ l, VMs m) → -60000 ≤ b x y → -60000 ≤ msB b l x y
  | [], b, _, h => h
  | m :: l, b, hV, h => msB_lo l (msgB b m) (fun x hx => hV x (by simp [hx])) (by
    have v := hV m (by simp)
    have := v.c0
    have := v.c1
    have := v.t0
    have := v.t1
    unfold msgB
    exact bnd_ge (bnd_ge (bnd_ge (bnd_ge h fun _ _ => by omega) fun _ _ => by omega) fun _ _ => by omega) fun _ _ => by omega)
theorem initP_v (n : Nat) {x y : Nat} (hx : x ≤ n) (hy : y ≤ n) : initP n (n + 1) 0 x y = if x = y then 0 else 1099511627776 := by
  unfold initP inf
  by_cases e : x = y
  · rw [if_neg (by omega), if_pos e]
  · rw [if_pos (by omega), if_neg e]
structure Bk0 (l : List Ms) (n : Nat) (b : Bk) : Prop where
  up : Under (n + 1) b
  lo : ∀ i j, i < n + 1 → j < n + 1 → -60000 ≤ b i j
  d : ∀ i, i < n + 1 → b i i ≤ 0
  st : ∀ i, i < n → b i (i + 1) ≤ 1000 ∧ b (i + 1) i ≤ -1
  ms : ∀ m ∈ l, b (m.no.toNat - 1) m.no.toNat ≤ m.coins ∧ b m.no.toNat (m.no.toNat - 1) ≤ -m.coins ∧ b 0 m.no.toNat ≤ m.total ∧ b m.no.toNat 0 ≤ -m.total
theorem bk0_ok {l : List Ms} (hV : ∀ m ∈ l, VMs m) : Bk0 l (lastM l).toNat (bk0 l) := by
  unfold bk0
  generalize (lastM l).toNat = n
  have hle : ∀ i j, msB (chB (initP n (n + 1) 0) n) l i j ≤ initP n (n + 1) 0 i j := fun i j => Int.le_trans (msB_le i j l _) (chB_le _ i j n)
  refine ⟨fun i j hi hj => Int.le_trans (hle i j) ?_, fun i j hi hj => msB_lo l _ hV (chB_lo ?_ n), fun i hi => Int.le_trans (hle i i) ?_, fun i hi => ?_, fun m hm => msB_at l _ m hm⟩
  · rw [initP_v n (by omega) (by omega)]; split <;> omega
  · rw [initP_v n (by omega) (by omega)]; split <;> omega
  · rw [initP_v n (by omega) (by omega), if_pos rfl]; exact Int.le_refl _
  · obtain ⟨h1, h2⟩ := chB_at (initP n (n + 1) 0) n i hi
    exact ⟨Int.le_trans (msB_le _ _ l _) h1, Int.le_trans (msB_le _ _ l _) h2⟩
theorem pot_up {l : List Ms} {n : Nat} {S : Nat → Int} (h : Pot l n S) : ∀ i, i ≤ n → (i : Int) ≤ S i - S 0 ∧ S i - S 0 ≤ 1000 * i
  | 0, _ => by omega
  | i + 1, hi => by
    have h1 := pot_up h i (by omega)
    have h2 := h.st i (by omega)
    omega
theorem pot_mono {l : List Ms} {n : Nat} {S : Nat → Int} (h : Pot l n S) (i : Nat) : ∀ d, i + d ≤ n → S i ≤ S (i + d)
  | 0, _ => Int.le_refl _
  | d + 1, hd => by
    have h1 := pot_mono h i d (by omega)
    have h2 := h.st (i + d) (by omega)
    rw [show i + (d + 1) = i + d + 1 from rfl]
    omega
theorem bk0_kept {l : List Ms} {S : Nat → Int} (h60 : lastM l ≤ 60) (h0 : 0 ≤ lastM l) (h : Pot l (lastM l).toNat S) : Kept ((lastM l).toNat + 1) (bk0 l) S := by
  unfold bk0
  refine msB_kept l _ h.co h.tot (chB_kept h.st (fun i j hi hj => ?_) _ (Nat.le_refl _))
  rw [initP_v _ (by omega) (by omega)]
  have h1 := pot_up h i (by omega)
  have h2 := pot_up h j (by omega)
  split
  · rename_i e; subst e; omega
  · omega
/-- What a book that follows tells, from one sale on. -/
theorem pot_of {l : List Ms} {n : Nat} {b0 b : Bk} (h0 : Bk0 l n b0) (hle : ∀ x y, b x y ≤ b0 x y) (hc : Closed (n + 1) (n + 1) b) (hn : ∀ m ∈ l, 1 ≤ m.no ∧ m.no.toNat ≤ n) {i0 : Nat} (hi : i0 < n + 1) : Pot l n (fun x => b i0 x) := by
  have tr : ∀ i j (w : Int), i < n + 1 → j < n + 1 → b0 i j ≤ w → b i0 j ≤ b i0 i + w := fun i j w hi' hj hw => by
    have h1 := hc.tri i0 j i hi hj hi'
    have h2 := hle i j
    omega
  refine ⟨fun i hi' => ?_, fun m hm => ?_, fun m hm => ?_⟩
  · obtain ⟨s1, s2⟩ := h0.st i hi'
    have a1 := tr i (i + 1) 1000 (by omega) (by omega) s1
    have a2 := tr (i + 1) i (-1) (by omega) (by omega) s2
    omega
  · obtain ⟨m1, m2, m3, m4⟩ := h0.ms m hm
    obtain ⟨n1, n2⟩ := hn m hm
    have a1 := tr _ _ _ (by omega) (by omega) m1
    have a2 := tr _ _ _ (by omega) (by omega) m2
    omega
  · obtain ⟨m1, m2, m3, m4⟩ := h0.ms m hm
    obtain ⟨n1, n2⟩ := hn m hm
    have a1 := tr _ _ _ (by omega) (by omega) m3
    have a2 := tr _ _ _ (by omega) (by omega) m4
    omega
theorem pot_of_fits {l : List Ms} {s : List Int} (hV : ∀ m ∈ l, VMs m) (h : Fits l s) : Pot l (lastM l).toNat (fun i => (s.take i).sum) := by
  have hl := h.len
  refine ⟨fun i hi => ?_, fun m hm => ?_, fun m hm => ?_⟩
  · have hi2 : i < s.length := by omega
    have h1 := h.ok _ (List.getElem_mem hi2)
    unfold okS at h1
    have := take_sum hi2
    omega
  · have h1 := (hV m hm).n0
    have h2 := lastM_le hm
    obtain ⟨h3, h4⟩ := List.getElem?_eq_some_iff.1 (h.at_ m hm)
    have h5 := take_sum h3
    rw [show m.no.toNat - 1 + 1 = m.no.toNat from by omega, h4] at h5
    omega
  · have := h.sum m hm
    simp only [List.take_zero, List.sum_nil]
    omega
theorem fits_of_pot {l : List Ms} {S : Nat → Int} (hV : ∀ m ∈ l, VMs m) (h : Pot l (lastM l).toNat S) : ∃ s, Fits l s ∧ ∀ i, i ≤ (lastM l).toNat → (s.take i).sum = S i - S 0 := by
  have hsum : ∀ i, i ≤ (lastM l).toNat → (((List.range (lastM l).toNat).map fun i => S (i + 1) - S i).take i).sum = S i - S 0 := by
    intro i
    induction i with
    | zero => intro _; simp
    | succ i ih =>
      intro hi
      have hl : i < ((List.range (lastM l).toNat).map fun i => S (i + 1) - S i).length := by rw [List.length_map, List.length_range]; omega
      rw [take_sum hl, ih (by omega), List.getElem_map, List.getElem_range]
      omega
  refine ⟨(List.range (lastM l).toNat).map fun i => S (i + 1) - S i, ⟨?_, fun x hx => ?_, fun m hm => ?_, fun m hm => ?_⟩, hsum⟩
  · rw [List.length_map, List.length_range]; have := lastM_0 l; omega
  · obtain ⟨i, hi, rfl⟩ := List.mem_map.1 hx
    exact h.st i (List.mem_range.1 hi)
  · have h1 := (hV m hm).n0
    have h2 := lastM_le hm
    have h3 := h.co m hm
    rw [List.getElem?_map, List.getElem?_range (by omega)]
    simp only [Option.map_some]
    rw [show m.no.toNat - 1 + 1 = m.no.toNat from by omega, h3]
  · have h2 := lastM_le hm
    rw [hsum _ (by omega)]; exact h.tot m hm
theorem sumR_take : ∀ (s : List Int) (k fr to_ : Int), k ≤ fr → fr ≤ to_ + 1 → sumR k s fr to_ = (s.take (to_ + 1 - k).toNat).sum - (s.take (fr - k).toNat).sum
  | [], k, fr, to_, _, _ => by simp [sumR]
  | x :: s, k, fr, to_, h1, h2 => by
    rw [sumR]
    by_cases e : k = fr
    · subst e
      rw [show (k - k).toNat = 0 from by omega, List.take_zero]
      by_cases e2 : k = to_ + 1
      · subst e2
        have : ∀ (s : List Int) (k fr to_ : Int), to_ < k → sumR k s fr to_ = 0 := by
          intro s
          induction s with
          | nil => intro k fr to_ _; rfl
          | cons x s ih =>
            intro k fr to_ h
            have hn : ¬ inI k fr to_ = true := fun e => by have := inI_iff.1 e; omega
            rw [sumR, if_neg hn, ih _ _ _ (by omega)]; rfl
        have hn : ¬ inI (to_ + 1) (to_ + 1) to_ = true := fun e => by have := inI_iff.1 e; omega
        rw [if_neg hn, this s _ _ _ (by omega)]
        simp
      · rw [if_pos (inI_iff.2 ⟨Int.le_refl _, by omega⟩)]
        have hgo : ∀ (s : List Int) (k fr to_ : Int), fr ≤ k → sumR k s fr to_ = (s.take (to_ + 1 - k).toNat).sum := by
          intro s
          induction s with
          | nil => intro k fr to_ _; simp [sumR]
          | cons x s ih =>
            intro k fr to_ h
            rw [sumR, ih _ _ _ (by omega)]
            by_cases h3 : k ≤ to_
            · rw [if_pos (inI_iff.2 ⟨h, h3⟩), show (to_ + 1 - k).toNat = (to_ + 1 - (k + 1)).toNat + 1 from by omega, List.take_succ_cons, List.sum_cons]
            · have hn : ¬ inI k fr to_ = true := fun e => by have := inI_iff.1 e; omega
              rw [if_neg hn, show (to_ + 1 - k).toNat = 0 from by omega, show (to_ + 1 - (k + 1)).toNat = 0 from by omega]; simp
        rw [hgo s _ _ _ (by omega), show (to_ + 1 - k).toNat = (to_ + 1 - (k + 1)).toNat + 1 from by omega, List.take_succ_cons, List.sum_cons]
        simp
    · have hn : ¬ inI k fr to_ = true := fun e' => by have := inI_iff.1 e'; omega
      rw [if_neg hn, sumR_take s (k + 1) fr to_ (by omega) h2, show (to_ + 1 - k).toNat = (to_ + 1 - (k + 1)).toNat + 1 from by omega, show (fr - k).toNat = (fr - (k + 1)).toNat + 1 from by omega, List.take_succ_cons, List.take_succ_cons, List.sum_cons, List.sum_cons]
      omega
theorem wk_closed {l : List Ms} (hV : ∀ m ∈ l, VMs m) (h : wkOk l = true) : Closed ((lastM l).toNat + 1) ((lastM l).toNat + 1) (wkB l) ∧ ∀ i, i < (lastM l).toNat + 1 → wkB l i i = 0 := by
  have hb := bk0_ok hV
  have hd : ∀ i, i < (lastM l).toNat + 1 → 0 ≤ wkB l i i := fun i hi => by
    have := List.all_eq_true.1 h i (List.mem_range.2 hi)
    simp at this
    omega
  refine ⟨fwK_closed hb.up (fun i j hi hj => by have := hb.lo i j hi hj; omega) hd _ (Nat.le_refl _), fun i hi => ?_⟩
  have h1 := hd i hi
  have h2 : wkB l i i ≤ bk0 l i i := by
    have := fwK_mono (bk0 l) ((lastM l).toNat + 1) i i 0 ((lastM l).toNat + 1)
    rw [Nat.zero_add] at this
    exact this
  have h3 := hb.d i hi
  omega
theorem wk_le (l : List Ms) (x y : Nat) : wkB l x y ≤ bk0 l x y := by
  have := fwK_mono (bk0 l) ((lastM l).toNat + 1) x y 0 ((lastM l).toNat + 1)
  rw [Nat.zero_add] at this
  exact this
theorem wk_pot {l : List Ms} (hV : ∀ m ∈ l, VMs m) (h : wkOk l = true) {i : Nat} (hi : i < (lastM l).toNat + 1) : Pot l (lastM l).toNat (fun x => wkB l i x) :=
  pot_of (bk0_ok hV) (wk_le l) (wk_closed hV h).1 (fun m hm => ⟨(hV m hm).n0, by have := lastM_le hm; omega⟩) hi
theorem wk_kept {l : List Ms} {S : Nat → Int} (hV : ∀ m ∈ l, VMs m) (h : Pot l (lastM l).toNat S) : Kept ((lastM l).toNat + 1) (wkB l) S := by
  have h0 := lastM_0 l
  have h60 := lastM_60 hV
  have hp : Pot l (lastM l).toNat (fun i => S i - S 0) := ⟨fun i hi => by have := h.st i hi; omega, fun m hm => by have := h.co m hm; omega, fun m hm => by have := h.tot m hm; omega⟩
  have hk := (fwK_kept (N := (lastM l).toNat + 1) (b0 := bk0 l) (S := fun i => S i - S 0) (fun i hi => by have := pot_up h i (by omega); omega) (bk0_kept h60 h0 hp) (bk0_ok hV).up _ (Nat.le_refl _)).1
  intro i j hi hj
  have : S j - S 0 - (S i - S 0) ≤ wkB l i j := hk i j hi hj
  omega
/-- Messages do not contradict themselves just if the book does not. -/
theorem wk_iff {l : List Ms} (hV : ∀ m ∈ l, VMs m) : wkOk l = fitB (srtL l) := by
  rw [Bool.eq_iff_iff, fit_ex hV]
  constructor
  · intro h
    obtain ⟨s, hs, _⟩ := fits_of_pot hV (wk_pot hV h (i := 0) (by omega))
    exact ⟨s, hs⟩
  · rintro ⟨s, hs⟩
    have hk := wk_kept hV (pot_of_fits hV hs)
    refine List.all_eq_true.2 fun i hi => ?_
    have := hk i i (List.mem_range.1 hi) (List.mem_range.1 hi)
    simp
    omega
theorem wk_taken {l : List Ms} (hV : ∀ m ∈ l, VMs m) (h : wkOk l = true) {fr to_ : Int} (h1 : 1 ≤ fr) (h2 : fr ≤ to_) (h3 : to_ ≤ lastM l) :
    wkB l (fr - 1).toNat to_.toNat = takenV muchG (srtL l) fr to_ ∧ -wkB l to_.toNat (fr - 1).toNat = takenV littleG (srtL l) fr to_ := by
  have hf : fitB (srtL l) = true := by rw [← wk_iff hV]; exact h
  have hz := (wk_closed hV h).2
  have hsm : ∀ s : List Int, sumR 1 s fr to_ = (s.take to_.toNat).sum - (s.take (fr - 1).toNat).sum := fun s => by
    rw [sumR_take s 1 fr to_ h1 (by omega), show to_ + 1 - 1 = to_ from by omega]
  constructor
  · refine Int.le_antisymm ?_ ?_
    · obtain ⟨s, hs, he⟩ := fits_of_pot hV (wk_pot hV h (i := (fr - 1).toNat) (by omega))
      have ht := (taken_le hV hs fr to_).2
      rw [hsm, he _ (by omega), he _ (by omega), hz _ (by omega)] at ht
      omega
    · obtain ⟨s, hs, he⟩ := taken_ex hV hf true fr to_
      have hk := wk_kept hV (pot_of_fits hV hs) (fr - 1).toNat to_.toNat (by omega) (by omega)
      rw [hsm, if_pos rfl] at he
      omega
  · refine Int.le_antisymm ?_ ?_
    · obtain ⟨s, hs, he⟩ := taken_ex hV hf false fr to_
      have hk := wk_kept hV (pot_of_fits hV hs) to_.toNat (fr - 1).toNat (by omega) (by omega)
      rw [hsm, if_neg (by decide)] at he
      omega
    · obtain ⟨s, hs, he⟩ := fits_of_pot hV (wk_pot hV h (i := to_.toNat) (by omega))
      have ht := (taken_le hV hs fr to_).1
      rw [hsm, he _ (by omega), he _ (by omega), hz _ (by omega)] at ht
      omega
end Go.Proofs.Ytjbmkdbgobmclaa

/- Walks of the reference and the laws of bill: what is lost, what is contradictory. -/
namespace Go.Proofs.Ytjbmkdbgobmclaa
open Go.RowKit Go.Shelf

theorem rng_nil {lo hi : Int} (h : hi < lo) : rngI lo hi = [] := by
  apply List.eq_nil_of_length_eq_zero; rw [rng_len]; omega
theorem rng_split {lo hi mid : Int} (h1 : lo ≤ mid + 1) (h2 : mid ≤ hi) : rngI lo hi = rngI lo mid ++ rngI (mid + 1) hi := by
  apply List.ext_getElem
  · rw [List.length_append, rng_len, rng_len, rng_len]; omega
  · intro i hi1 hi2
    rw [rng_get]
    by_cases h : i < (rngI lo mid).length
    · rw [List.getElem_append_left h, rng_get]
    · rw [List.getElem_append_right (by omega), rng_get]
      rw [rng_len] at h ⊢
      omega
theorem rng_one (n : Int) : rngI n n = [n] := by
  apply List.ext_getElem
  · rw [rng_len]; simp; omega
  · intro i h1 h2
    rw [rng_get]
    have : i = 0 := by simp at h2; omega
    subst this
    simp
def goneB (l : List Ms) (n : Int) : Bool := !(l.any fun m => decide (m.no = n))
def lostR (l : List Ms) : List Int := (rngI 1 (lastM l)).filter (goneB l)
theorem lost_go : ∀ (ts : List Ms) (last : Ms), ts.Pairwise (fun a b => a.no < b.no) → (∀ m ∈ ts, last.no < m.no) → (gapsF last ts).flatMap gapR = (rngI (last.no + 1) (lastF last ts)).filter (goneB ts)
  | [], last, _, _ => by rw [lastF, rng_nil (by omega)]; rfl
  | m :: ts, last, h1, h2 => by
    obtain ⟨h3, h4⟩ := List.pairwise_cons.1 h1
    have hm := h2 m (List.mem_cons_self ..)
    have hL : m.no ≤ lastF m ts := by
      rcases (lastF_eq ts m (h4.imp fun h => by omega)).2 with ⟨_, h⟩ | ⟨x, hx, h⟩
      · omega
      · have := h3 x hx; omega
    rw [gapsF, List.flatMap_cons, lost_go ts m h4 h3, lastF, rng_split (lo := last.no + 1) (mid := m.no) (by omega) hL, rng_split (lo := last.no + 1) (hi := m.no) (mid := m.no - 1) (by omega) (by omega), show m.no - 1 + 1 = m.no from by omega, rng_one, List.filter_append, List.filter_append]
    have e1 : (rngI (last.no + 1) (m.no - 1)).filter (goneB (m :: ts)) = rngI (last.no + 1) (m.no - 1) := by
      rw [List.filter_eq_self]
      intro n hn
      have hn := mem_rng.1 hn
      unfold goneB
      rw [Bool.not_eq_true', List.any_eq_false]
      intro x hx
      rcases List.mem_cons.1 hx with rfl | hx
      · simp; omega
      · have := h3 x hx; simp; omega
    have e2 : [m.no].filter (goneB (m :: ts)) = [] := by simp [goneB]
    have e3 : (rngI (m.no + 1) (lastF m ts)).filter (goneB (m :: ts)) = (rngI (m.no + 1) (lastF m ts)).filter (goneB ts) := by
      apply List.filter_congr
      intro n hn
      have hn := mem_rng.1 hn
      unfold goneB
      rw [List.any_cons, decide_eq_false (show ¬ m.no = n by omega), Bool.false_or]
    rw [e1, e2, e3, List.append_nil]
    rfl
theorem lost_eq {l : List Ms} (hV : ∀ m ∈ l, VMs m) (hf : fitB (srtL l) = true) : lostL (srtL l) = lostR l := by
  obtain ⟨h1, h2⟩ := fit_up (srtL l) zM hf
  unfold lostL gapsL lostR
  rw [lost_go _ _ h1 h2, ← lastN_F, lastN_M hV]
  congr 1
  funext n
  unfold goneB
  congr 1
  rw [Bool.eq_iff_iff, List.any_eq_true, List.any_eq_true]
  exact ⟨fun ⟨m, hm, h⟩ => ⟨m, srt_mem.1 hm, h⟩, fun ⟨m, hm, h⟩ => ⟨m, srt_mem.2 hm, h⟩⟩
theorem filter_len (p : Int → Bool) (lo hi : Int) : ((rngI lo hi).filter p).length ≤ (hi + 1 - lo).toNat := by
  have := List.length_filter_le p (rngI lo hi)
  rw [rng_len] at this
  exact this
set_option maxRecDepth 100000 in
theorem rLost_j (a : Option Addr) (c : Nat) (ls : List Ms) (hl : ls.length ≤ 1000) (hV : ∀ m ∈ ls, VMs m) : Cr Try.prog 26 [.slice a ls.length c] (KSl a ls.length c encM ls) (fun q : Option Addr × Nat => .slice q.1 (lostR ls).length q.2) (fun q => KSl q.1 (lostR ls).length q.2 encI (lostR ls)) := by
  have h60 := lastM_60 hV
  have hge := lastM_0 ls
  have hlj := Last_j a c ls hl
  unfold lostR
  generalize lastM ls = L at h60 hge hlj
  obtain ⟨n, rfl⟩ : ∃ n : Nat, L = n := ⟨L.toNat, by omega⟩
  refine Cx_of Try.func26 rfl Try.ntmps26 rfl fun w0 M0 => ?_
  refine JC_seq ?_
  refine JC_region ?_
  refine JL_pd rfl (det_assign rfl) ?_
  refine JL_nil ?_
  refine JE_seq ?_
  refine JC_seq ?_
  refine JC_region ?_
  refine JL_pd rfl (det_assign rfl) ?_
  refine JL_nil ?_
  refine JE_seq ?_
  refine JC_seq ?_
  refine JC_seq ?_
  refine JC_region ?_
  refine JL_pd rfl (det_assign rfl) ?_
  refine JL_nil ?_
  refine JE_seq ?_
  refine JC_block ?_
  -- stop: loop
  refine JC_nil 3 1 ?_
  refine JC_loopF (γ := Nat × Value) (fun q => q.1 ≤ n) (fun q => [(4, I (1 + q.1)), (3, q.2)]) (fun q => [ow q.2 3 1 ((rngI 1 q.1).filter (goneB ls)).length (((rngI 1 q.1).filter (goneB ls)).flatMap encI)]) (fun q => n - q.1) (0, .slice none 0 0) (Nat.zero_le _) (stsub_consI rfl rfl (stsub_cons rfl stsub_nil)) (ht_ow (by rw [rng_nil (by simp)]; rfl) (by rw [rng_nil (by simp)]; rfl) ht_nil) ?_
  rintro ⟨i, v⟩ hi K hK
  dsimp only [List.cons_append, List.nil_append] at hi ⊢
  have hfl := filter_len (goneB ls) 1 i
  refine JC_seq ?_
  refine JC_seq ?_
  refine JC_region ?_
  refine JL_pd rfl (det_move rfl) ?_
  refine JL_pd rfl (det_move rfl) ?_
  refine JL_step rfl rfl rfl (jo_callv rfl rfl Try.call28 rfl (hlj)) fun _ => ?_
  refine JL_pd rfl (det_leq rfl rfl) ?_
  refine JL_nil ?_
  refine JE_seq ?_
  -- stop: cond
  refine JC_if rfl (fun h1 => ?_) (fun h1 => ?_)
  · have hi2 : i < n := by omega
    have hsn : (rngI 1 ((i + 1 : Nat) : Int)).filter (goneB ls) = (rngI 1 i).filter (goneB ls) ++ [1 + (i : Int)].filter (goneB ls) := by
      rw [rng_split (mid := (i : Int)) (by omega) (by omega), show ((i + 1 : Nat) : Int) = 1 + (i : Int) from by omega, show (i : Int) + 1 = 1 + i from by omega, rng_one, List.filter_append]
    generalize hR : (rngI 1 (i : Int)).filter (goneB ls) = R at hsn hfl
    refine JC_skip ?_
    refine JE_seq ?_
    refine JC_seq ?_
    refine JC_block ?_
    refine JC_seq ?_
    refine JC_region ?_
    refine JL_pd rfl (det_assign rfl) ?_
    refine JL_nil ?_
    refine JE_seq ?_
    refine JC_seq ?_
    refine JC_seq ?_
    refine JC_region ?_
    refine JL_pd rfl (det_assign rfl) ?_
    refine JL_nil ?_
    refine JE_seq ?_
    refine JC_block ?_
    -- stop: loop
    refine JC_loopF (γ := Nat) (fun k => k ≤ ls.length) (fun k => [(6, I k), (5, .bool ((ls.take k).any fun m => decide (m.no = 1 + (i : Int))))]) (fun _ => []) (fun k => ls.length - k) 0 (Nat.zero_le _) (stsub_consI rfl rfl (stsub_consB rfl rfl stsub_nil)) ht_nil ?_
    intro k hk K1 hK1
    dsimp only [List.cons_append, List.nil_append]
    generalize hb : ((ls.take k).any fun m => decide (m.no = 1 + (i : Int))) = b
    refine JC_seq ?_
    refine JC_seq ?_
    refine JC_region ?_
    refine JL_pd rfl (det_move rfl) ?_
    refine JL_pd rfl (det_move rfl) ?_
    refine JL_pd rfl (det_len rfl Try.runUnderlying31) ?_
    refine JL_pd rfl (det_lss rfl rfl) ?_
    refine JL_nil ?_
    refine JE_seq ?_
    -- stop: cond
    refine JC_if rfl (fun h2 => ?_) (fun h2 => ?_)
    · have hk2 : k < ls.length := by omega
      have hsk : ((ls.take (k + 1)).any fun m => decide (m.no = 1 + (i : Int))) = (b || decide (ls[k].no = 1 + (i : Int))) := by rw [take_snoc hk2, List.any_append, hb]; simp
      cases b with
      | true =>
        refine JC_skip ?_
        refine JE_seq ?_
        refine JC_seq ?_
        refine JC_block ?_
        refine JC_region ?_
        refine JL_pd rfl (det_move rfl) ?_
        refine JL_pd rfl (det_move rfl) ?_
        -- stop: guard 1
        refine JL_is (d0 := 20) true rfl (by rfl) (fun g1 => ?_)
        refine JL_skip rfl rfl g1 rfl ?_
        refine JL_skip rfl rfl g1 rfl ?_
        refine JL_skip rfl rfl g1 rfl ?_
        refine JL_skip rfl rfl g1 rfl ?_
        refine JL_skip rfl rfl g1 rfl ?_
        refine JL_skip rfl rfl g1 rfl ?_
        refine JL_skip rfl rfl g1 rfl ?_
        refine JL_pd rfl (det_pick_t rfl g1 rfl) ?_
        refine JL_pd rfl (det_assign rfl) ?_
        refine JL_nil ?_
        refine JE_block ?_
        refine JE_seq ?_
        refine JC_region ?_
        refine JL_pd rfl (det_move rfl) ?_
        refine JL_pd rfl (det_add rfl rfl ⟨by omega, by omega⟩) ?_
        refine JL_pd rfl (det_assign rfl) ?_
        refine JL_nil ?_
        -- stop: end
        refine JE_roundF hK1 (k + 1) (by omega) (by omega) (stsub_consI rfl (by omega) (stsub_consB rfl (by rw [hsk]; rfl) stsub_nil)) ht_nil
      | false =>
        refine JC_skip ?_
        refine JE_seq ?_
        refine JC_seq ?_
        refine JC_block ?_
        refine JC_region ?_
        refine JL_pd rfl (det_move rfl) ?_
        refine JL_pd rfl (det_move rfl) ?_
        -- stop: guard 1
        refine JL_is (d0 := 20) false rfl (by rfl) (fun g1 => ?_)
        refine JL_guard rfl rfl g1 ?_
        refine JL_pd rfl (det_move rfl) ?_
        refine JL_guard rfl rfl g1 ?_
        refine JL_pd rfl (det_move rfl) ?_
        refine JL_guard rfl rfl g1 ?_
        refine JL_dt rfl (det_indexAddr rfl rfl (by first | rfl | omega) (by first | assumption | omega | decide) Try.runUnderlying31 Try.sizeOf74) ?_
        refine JL_guard rfl rfl g1 ?_
        refine JL_pd rfl (det_fieldAddrE rfl fo_74_0) ?_
        refine JL_guard rfl rfl g1 ?_
        refine JL_dt rfl (det_loadEk rfl (by first | assumption | omega | decide) Try.isAgg3 rfl rfl) ?_
        refine JL_guard rfl rfl g1 ?_
        refine JL_pd rfl (det_move rfl) ?_
        refine JL_guard rfl rfl g1 ?_
        refine JL_pd rfl (det_eql rfl rfl) ?_
        refine JL_pd rfl (det_pick_f rfl g1 rfl) ?_
        refine JL_pd rfl (det_assign rfl) ?_
        refine JL_nil ?_
        refine JE_block ?_
        refine JE_seq ?_
        refine JC_region ?_
        refine JL_pd rfl (det_move rfl) ?_
        refine JL_pd rfl (det_add rfl rfl ⟨by omega, by omega⟩) ?_
        refine JL_pd rfl (det_assign rfl) ?_
        refine JL_nil ?_
        -- stop: end
        refine JE_roundF hK1 (k + 1) (by omega) (by omega) (stsub_consI rfl (by omega) (stsub_consB rfl (by rw [hsk]; rfl) stsub_nil)) ht_nil
    · obtain rfl : k = ls.length := by omega
      rw [List.take_length] at hb
      have hg : goneB ls (1 + (i : Int)) = !b := by unfold goneB; rw [hb]
      refine JC_exit ?_
      refine JE_seq_exit ?_
      refine JE_then_exit ?_
      refine JE_block_here ?_
      refine JE_seq ?_
      refine JC_seq ?_
      refine JC_region ?_
      refine JL_pd rfl (det_move rfl) ?_
      refine JL_pd rfl (det_not rfl) ?_
      refine JL_nil ?_
      refine JE_seq ?_
      -- stop: cond
      refine JC_cond rfl (fun h3 => ?_) (fun h3 => ?_)
      · rw [show [1 + (i : Int)].filter (goneB ls) = [1 + (i : Int)] from by simp [hg]; simpa using h3] at hsn
        refine JC_region ?_
        refine JL_pd rfl (det_move rfl) ?_
        refine JL_pd rfl (det_move rfl) ?_
        refine JL_step rfl rfl rfl (jo_buildSlice rfl (bsl_22_1_0 _)) fun b33 => ?_
        refine JL_step rfl rfl rfl (jo_append el_22 rfl rfl rfl rfl (by omega)) fun b34 => ?_
        refine JL_pd rfl (det_assign rfl) ?_
        refine JL_nil ?_
        refine JE_block ?_
        refine JE_seq ?_
        refine JC_region ?_
        refine JL_pd rfl (det_move rfl) ?_
        refine JL_pd rfl (det_add rfl rfl ⟨by omega, by omega⟩) ?_
        refine JL_pd rfl (det_assign rfl) ?_
        refine JL_nil ?_
        -- stop: end
        refine JE_roundF hK (i + 1, .slice (some ⟨b34.1, 0, none⟩) (R.length + 1) b34.2) (by simp only; omega) (by simp only; omega) (stsub_consI rfl (by simp only; omega) (stsub_cons rfl stsub_nil)) (ht_ow (by simp only [hsn, List.length_append]; rfl) (by simp only; rw [hsn, List.flatMap_append]; rfl) ht_nil)
      · rw [show [1 + (i : Int)].filter (goneB ls) = [] from by simp [hg]; simpa using h3, List.append_nil] at hsn
        refine JC_skip ?_
        refine JE_block ?_
        refine JE_seq ?_
        refine JC_region ?_
        refine JL_pd rfl (det_move rfl) ?_
        refine JL_pd rfl (det_add rfl rfl ⟨by omega, by omega⟩) ?_
        refine JL_pd rfl (det_assign rfl) ?_
        refine JL_nil ?_
        -- stop: end
        refine JE_roundF hK (i + 1, v) (by simp only; omega) (by simp only; omega) (stsub_consI rfl (by simp only; omega) (stsub_cons rfl stsub_nil)) (ht_ow (by simp only [hsn]) (by simp only [hsn]) ht_nil)
  · obtain rfl : i = n := by omega
    refine JC_slice (enc := encI) (v := v) ((rngI 1 (i : Int)).filter (goneB ls)) noFp rfl rfl ?_
    rintro av cv rfl
    refine JC_exit ?_
    refine JE_seq_exit ?_
    refine JE_then_exit ?_
    refine JE_block_here ?_
    refine JE_seq ?_
    refine JC_seq ?_
    refine JC_region ?_
    refine JL_pd rfl (det_move rfl) ?_
    refine JL_pd rfl (det_assign rfl) ?_
    refine JL_nil ?_
    refine JE_seq ?_
    refine JC_ret ?_
    -- stop: out
    refine JE_out (.inl rfl) (av, cv) (results1 Try.results26 (res_tmp rfl)) rfl (List.Perm.refl _) (fun w h => h.1)
theorem readE_mf {l : List Ms} (h : mfE l ≠ 0) : readE l = mfE l := by
  unfold readE mfE at *
  split
  · rfl
  · split
    · rfl
    · rename_i h1 h2; rw [if_neg h1, if_neg h2] at h; exact absurd rfl h
theorem readE_wk {l : List Ms} (h : mfE l = 0) : readE l = if wkOk l = true then 0 else 9 := by
  obtain ⟨h1, h2⟩ := mfE_of h
  rw [wk_iff h2]
  unfold readE
  rw [if_neg (by omega), if_neg (by rw [List.all_eq_true.2 fun m hm => msOk_iff.2 (h2 m hm)]; decide)]
  cases fitB (srtL l) <;> rfl
theorem mfE_read {l : List Ms} (h : readE l = 0) : mfE l = 0 ∧ wkOk l = true := by
  by_cases hm : mfE l = 0
  · rw [readE_wk hm] at h
    refine ⟨hm, ?_⟩
    cases hw : wkOk l
    · rw [hw] at h; cases h
    · rfl
  · rw [readE_mf hm] at h; exact absurd h hm
set_option maxRecDepth 100000 in
theorem lostFault_j (a : Option Addr) (c : Nat) (ls : List Ms) (hl : ls.length ≤ 1000) : Cv Try.prog 24 [.slice a ls.length c] (KSl a ls.length c encM ls) (I (readE ls)) := by
  have hmj := MessagesFault_j a c ls hl
  refine Cx_of Try.func24 rfl Try.ntmps24 rfl fun w0 M0 => ?_
  refine JC_seq ?_
  refine JC_region ?_
  refine JL_pd rfl (det_assign rfl) ?_
  refine JL_nil ?_
  refine JE_seq ?_
  refine JC_seq ?_
  refine JC_seq ?_
  refine JC_region ?_
  refine JL_pd rfl (det_move rfl) ?_
  refine JL_step rfl rfl rfl (jo_callv rfl rfl Try.call51 rfl (hmj)) fun _ => ?_
  refine JL_pd rfl (det_assign rfl) ?_
  refine JL_nil ?_
  refine JE_seq ?_
  refine JC_seq ?_
  refine JC_region ?_
  refine JL_pd rfl (det_move rfl) ?_
  refine JL_pd rfl (det_neq rfl rfl) ?_
  refine JL_nil ?_
  refine JE_seq ?_
  -- stop: cond
  refine JC_ifn rfl (fun h1 => ?_) (fun h1 => ?_)
  · refine JC_seq ?_
    refine JC_region ?_
    refine JL_pd rfl (det_move rfl) ?_
    refine JL_pd rfl (det_assign rfl) ?_
    refine JL_nil ?_
    refine JE_seq ?_
    refine JC_ret ?_
    refine JE_seq_ret ?_
    -- stop: out
    refine JE_out (.inl rfl) () (results1 Try.results24 (res_tmp rfl)) (by rw [readE_mf h1]) (List.Perm.refl _) (fun _ _ => trivial)
  · obtain ⟨h2, hV⟩ := mfE_of h1
    have hrw := readE_wk h1
    have hwj := Work_j a c ls hl hV
    generalize wkOk ls = W at hrw hwj
    generalize wkB ls = B at hwj
    refine JC_skip ?_
    refine JE_seq ?_
    refine JC_seq ?_
    refine JC_seq ?_
    refine JC_region ?_
    refine JL_pd rfl (det_move rfl) ?_
    refine JL_step rfl rfl rfl (jo_call rfl rfl Try.call29 rfl (hwj)) fun x13 => ?_
    refine JL_pd rfl (det_move rfl) ?_
    refine JL_pd rfl (det_extract rfl rfl) ?_
    refine JL_pd rfl (det_extract rfl rfl) ?_
    refine JL_pd rfl (det_assign rfl) ?_
    refine JL_pd rfl (det_assign rfl) ?_
    refine JL_nil ?_
    refine JE_seq ?_
    refine JC_seq ?_
    refine JC_region ?_
    refine JL_pd rfl (det_move rfl) ?_
    refine JL_pd rfl (det_not rfl) ?_
    refine JL_nil ?_
    refine JE_seq ?_
    -- stop: cond
    refine JC_cond rfl (fun h3 => ?_) (fun h3 => ?_)
    · simp only [Bool.not_eq_true'] at h3
      refine JC_seq ?_
      refine JC_region ?_
      refine JL_pd rfl (det_assign rfl) ?_
      refine JL_nil ?_
      refine JE_seq ?_
      refine JC_ret ?_
      refine JE_seq_ret ?_
      -- stop: out
      refine JE_out (.inl rfl) () (results1 Try.results24 (res_tmp rfl)) (by rw [hrw, h3]; rfl) (List.Perm.refl _) (fun _ _ => trivial)
    · simp only [Bool.not_eq_false'] at h3
      refine JC_skip ?_
      refine JE_seq ?_
      refine JC_seq ?_
      refine JC_region ?_
      refine JL_pd rfl (det_assign rfl) ?_
      refine JL_nil ?_
      refine JE_seq ?_
      refine JC_ret ?_
      -- stop: out
      refine JE_out (.inl rfl) () (results1 Try.results24 (res_tmp rfl)) (by rw [hrw, h3]; rfl) (List.Perm.refl _) (fun _ _ => trivial)
set_option maxRecDepth 100000 in
theorem rTaken_j (b0 : Nat) (B : Bk) (fr to_ : Int) (h1 : 1 ≤ fr) (h2 : fr ≤ to_) (h3 : to_ ≤ 60) (hb : -2199023255552 ≤ B to_.toNat (fr - 1).toNat ∧ B to_.toNat (fr - 1).toNat ≤ 2199023255552) : Cv Try.prog 30 [pt b0, I fr, I to_] (KBox b0 (encB B)) (.agg #[I (-B to_.toNat (fr - 1).toNat), I (B (fr - 1).toNat to_.toNat)]) := by
  refine Cx_of Try.func30 rfl Try.ntmps30 rfl fun w0 M0 => ?_
  refine JC_seq ?_
  refine JC_region ?_
  refine JL_step rfl rfl rfl (jo_alloc0 Try.zeroValue47 rfl) fun b6 => ?_
  refine JL_nil ?_
  refine JE_seq ?_
  refine JC_seq ?_
  refine JC_draw [18] (by kernel_rfl) ?_
  refine JA_pd (i := 0) rfl (by kernel_rfl) rfl rfl (det_move rfl) ?_
  refine JA_pd (i := 1) rfl (by kernel_rfl) rfl rfl (det_move rfl) ?_
  refine JA_pd (i := 2) rfl (by kernel_rfl) rfl rfl (det_move rfl) ?_
  refine JA_pd (i := 3) rfl (by kernel_rfl) rfl rfl (det_sub rfl rfl ⟨by omega, by omega⟩) ?_
  refine JA_pd (i := 4) rfl (by kernel_rfl) rfl rfl (det_nilCheck rfl) ?_
  refine JA_pd (i := 5) rfl (by kernel_rfl) rfl rfl (det_indexArr (i := to_.toNat) rfl rfl (by omega) (by omega) Try.runUnderlying117 Try.sizeOf115) ?_
  refine JA_pd (i := 6) rfl (by kernel_rfl) rfl rfl (det_indexArr (i := (fr - 1).toNat) rfl rfl (by omega) (by omega) Try.runUnderlying115 Try.sizeOf3) ?_
  refine JA_dt (i := 7) rfl (by kernel_rfl) (by kernel_rfl) rfl rfl (det_loadK rfl Try.isAgg3 (encB_get (by omega) (by omega))) ?_
  refine JA_pd (i := 8) rfl (by kernel_rfl) rfl rfl (det_neg rfl ⟨by omega, by omega⟩) ?_
  refine JA_pd (i := 9) rfl (by kernel_rfl) rfl rfl (det_move rfl) ?_
  refine JA_pd (i := 10) rfl (by kernel_rfl) rfl rfl (det_move rfl) ?_
  refine JA_pd (i := 11) rfl (by kernel_rfl) rfl rfl (det_sub rfl rfl ⟨by omega, by omega⟩) ?_
  refine JA_pd (i := 12) rfl (by kernel_rfl) rfl rfl (det_move rfl) ?_
  refine JA_pd (i := 13) rfl (by kernel_rfl) rfl rfl (det_nilCheck rfl) ?_
  refine JA_pd (i := 14) rfl (by kernel_rfl) rfl rfl (det_indexArr (i := (fr - 1).toNat) rfl rfl (by omega) (by omega) Try.runUnderlying117 Try.sizeOf115) ?_
  refine JA_pd (i := 15) rfl (by kernel_rfl) rfl rfl (det_indexArr (i := to_.toNat) rfl rfl (by omega) (by omega) Try.runUnderlying115 Try.sizeOf3) ?_
  refine JA_dt (i := 16) rfl (by kernel_rfl) (by kernel_rfl) rfl rfl (det_loadK rfl Try.isAgg3 (encB_get (by omega) (by omega))) ?_
  refine JA_pd (i := 17) rfl (by kernel_rfl) rfl rfl (det_build rfl (bld_47_0_1 _ _)) ?_
  refine JA_tail (i := 18) (by kernel_rfl) rfl rfl rfl rfl (jo_store rfl rfl rfl (by first | (simp only [splice_norm]; done) | (simp only [splice_norm]; rfl) | rfl) Try.sizeOf47 rfl rfl) fun _ => ?_
  refine JT_done (by kernel_rfl) ?_
  refine JE_seq ?_
  refine JC_ret ?_
  -- stop: out
  refine JE_out (.inl rfl) () (results1 Try.results30 (res_box rfl Try.isAgg47 Try.sizeOf47 rfl)) rfl (List.Perm.refl _) (fun _ _ => trivial)
end Go.Proofs.Ytjbmkdbgobmclaa

/- Own texts, laid together: B1 B2 B3 B4 B5. Nothing is asked. -/
import Derived.Test.YthpkgabckklojaaGreatZ4
import Derived.Test.YthpkgabckklojaaGreatJF
set_option linter.unusedSimpArgs false
set_option linter.unusedVariables false
/- Bill, plain: tariffs, messages, shares. -/
namespace Go.Proofs.YthpkgabckklojaaGreat.Bl
open Go.RowKit Go.Shelf

structure Am where
  g : Int
  q : Int
  s : Int
deriving DecidableEq, Inhabited
structure Of where
  price : Int
  am : Am
  lo : Int
  hi : Int
  most : Int
deriving DecidableEq, Inhabited
structure Ms where
  no : Int
  coins : Int
  total : Int
deriving DecidableEq, Inhabited
def encI (n : Int) : List Value := [I n]
instance : Rec encI 1 := ⟨fun _ => rfl, by decide⟩
def encO (x : Of) : List Value := [I x.price, I x.am.g, I x.am.q, I x.am.s, I x.lo, I x.hi, I x.most]
instance : Rec encO 7 := ⟨fun _ => rfl, by decide⟩
def encM (x : Ms) : List Value := [I x.no, I x.coins, I x.total]
instance : Rec encM 3 := ⟨fun _ => rfl, by decide⟩
theorem encI_one (y : Int) : (encI y).all (·.oneCell') = true := rfl
theorem encO_one (y : Of) : (encO y).all (·.oneCell') = true := rfl
theorem encM_one (y : Ms) : (encM y).all (·.oneCell') = true := rfl
def inI (n lo hi : Int) : Bool := decide (lo ≤ n ∧ n ≤ hi)
theorem inI_iff {n lo hi : Int} : inI n lo hi = true ↔ lo ≤ n ∧ n ≤ hi := by simp [inI]
def amOk (a : Am) : Bool := inI a.g 0 12 && (inI a.q 0 12 && inI a.s 0 12)
def ofOk (o : Of) : Bool := inI o.price 0 10000 && (amOk o.am && (inI o.lo 0 23 && (inI o.hi 0 23 && (decide (o.lo ≤ o.hi) && inI o.most 0 12))))
def msOk (m : Ms) : Bool := inI m.no 1 60 && (inI m.coins 1 1000 && inI m.total 0 60000)
structure VAm (a : Am) : Prop where
  g0 : 0 ≤ a.g
  g1 : a.g ≤ 12
  q0 : 0 ≤ a.q
  q1 : a.q ≤ 12
  s0 : 0 ≤ a.s
  s1 : a.s ≤ 12
structure VOf (o : Of) : Prop where
  p0 : 0 ≤ o.price
  p1 : o.price ≤ 10000
  am : VAm o.am
  l0 : 0 ≤ o.lo
  lh : o.lo ≤ o.hi
  h1 : o.hi ≤ 23
  m0 : 0 ≤ o.most
  m1 : o.most ≤ 12
structure VMs (m : Ms) : Prop where
  n0 : 1 ≤ m.no
  n1 : m.no ≤ 60
  c0 : 1 ≤ m.coins
  c1 : m.coins ≤ 1000
  t0 : 0 ≤ m.total
  t1 : m.total ≤ 60000
theorem amOk_iff {a : Am} : amOk a = true ↔ VAm a := by
  unfold amOk
  simp only [Bool.and_eq_true, inI_iff]
  exact ⟨fun h => ⟨h.1.1, h.1.2, h.2.1.1, h.2.1.2, h.2.2.1, h.2.2.2⟩, fun h => ⟨⟨h.g0, h.g1⟩, ⟨h.q0, h.q1⟩, h.s0, h.s1⟩⟩
theorem ofOk_iff {o : Of} : ofOk o = true ↔ VOf o := by
  unfold ofOk
  simp only [Bool.and_eq_true, inI_iff, amOk_iff, decide_eq_true_eq]
  exact ⟨fun h => ⟨h.1.1, h.1.2, h.2.1, h.2.2.1.1, h.2.2.2.2.1, h.2.2.2.1.2, h.2.2.2.2.2.1, h.2.2.2.2.2.2⟩, fun h => ⟨⟨h.p0, h.p1⟩, h.am, ⟨h.l0, Int.le_trans h.lh h.h1⟩, ⟨Int.le_trans h.l0 h.lh, h.h1⟩, h.lh, h.m0, h.m1⟩⟩
theorem msOk_iff {m : Ms} : msOk m = true ↔ VMs m := by
  unfold msOk
  simp only [Bool.and_eq_true, inI_iff]
  exact ⟨fun h => ⟨h.1.1, h.1.2, h.2.1.1, h.2.1.2, h.2.2.1, h.2.2.2⟩, fun h => ⟨⟨h.n0, h.n1⟩, ⟨h.c0, h.c1⟩, h.t0, h.t1⟩⟩
/-- The error of a tariff; of one with an amount and an hour. -/
def tarE (l : List Of) : Int := if 6 < l.length then 3 else if l.all ofOk = false then 1 else 0
def askE (l : List Of) (need : Am) (at_ : Int) : Int := if tarE l ≠ 0 then tarE l else if (amOk need && inI at_ 0 23) = false then 2 else 0
theorem tar_of {l : List Of} (h : tarE l = 0) : l.length ≤ 6 ∧ ∀ o ∈ l, VOf o := by
  unfold tarE at h
  split at h
  · omega
  · split at h
    · omega
    · rename_i h1 h2
      exact ⟨by omega, fun o ho => ofOk_iff.1 (List.all_eq_true.1 (by simpa using h2) o ho)⟩
theorem ask_of {l : List Of} {need : Am} {at_ : Int} (h : askE l need at_ = 0) : tarE l = 0 ∧ VAm need ∧ 0 ≤ at_ ∧ at_ ≤ 23 := by
  unfold askE at h
  split at h
  · omega
  · split at h
    · omega
    · rename_i h1 h2
      rw [Bool.not_eq_false, Bool.and_eq_true, amOk_iff, inI_iff] at h2
      exact ⟨by omega, h2.1, h2.2⟩
/-- Shares. -/
def shareE (sum : Int) (ws : List Int) : Int := if 10 < ws.length then 3 else if (inI sum 0 1000000 && ws.all fun n => inI n 0 1000) = false then 2 else if ws.sum = 0 then 7 else 0
def paidV (sum : Int) (ws : List Int) (k : Nat) : Int := (sum * (ws.take k).sum).tdiv ws.sum
def sharesN (sum : Int) (ws : List Int) : Nat → List Int
  | 0 => []
  | n + 1 => sharesN sum ws n ++ [paidV sum ws (n + 1) - paidV sum ws n]
def sharesV (sum : Int) (ws : List Int) : List Int := sharesN sum ws ws.length
theorem sharesN_len (sum : Int) (ws : List Int) : ∀ n, (sharesN sum ws n).length = n
  | 0 => rfl
  | n + 1 => by unfold sharesN; rw [List.length_append, sharesN_len sum ws n]; rfl
structure VSh (sum : Int) (ws : List Int) : Prop where
  n : ws.length ≤ 10
  s0 : 0 ≤ sum
  s1 : sum ≤ 1000000
  w : ∀ x ∈ ws, 0 ≤ x ∧ x ≤ 1000
theorem share_of {sum : Int} {ws : List Int} (h : shareE sum ws = 0) : VSh sum ws ∧ ws.sum ≠ 0 := by
  unfold shareE at h
  split at h
  · omega
  · split at h
    · omega
    · split at h
      · omega
      · rename_i h1 h2 h3
        rw [Bool.not_eq_false, Bool.and_eq_true, inI_iff, List.all_eq_true] at h2
        exact ⟨⟨by omega, h2.1.1, h2.1.2, fun x hx => inI_iff.1 (h2.2 x hx)⟩, h3⟩
theorem take_sum {l : List Int} {i : Nat} (h : i < l.length) : (l.take (i + 1)).sum = (l.take i).sum + l[i] := by
  rw [List.take_succ_eq_append_getElem h, List.sum_append]; simp
theorem sum_bd : ∀ (l : List Int), (∀ x ∈ l, 0 ≤ x ∧ x ≤ 1000) → 0 ≤ l.sum ∧ l.sum ≤ 1000 * l.length
  | [], _ => by simp
  | x :: l, h => by
    have h1 := h x (List.mem_cons_self ..)
    have h2 := sum_bd l fun y hy => h y (List.mem_cons_of_mem _ hy)
    rw [List.sum_cons, List.length_cons]
    omega
theorem take_le : ∀ (l : List Int) (k : Nat), (∀ x ∈ l, 0 ≤ x ∧ x ≤ 1000) → (l.take k).sum ≤ l.sum := fun l k h => by
  have h2 := sum_bd (l.drop k) fun y hy => h y (List.mem_of_mem_drop hy)
  conv => rhs; rw [← List.take_append_drop k l, List.sum_append]
  omega
end Go.Proofs.YthpkgabckklojaaGreat.Bl

/- Walks of bill: numbers, and what all of a list are; shares. -/
namespace Go.Proofs.YthpkgabckklojaaGreat.Bl
open Go.RowKit Go.Shelf

theorem take_snoc {α : Type} {l : List α} {i : Nat} (h : i < l.length) : l.take (i + 1) = l.take i ++ [l[i]] := List.take_succ_eq_append_getElem h
theorem within_j (n lo hi : Int) : Cv Tryz.prog 95 [I n, I lo, I hi] KTrue (.bool (inI n lo hi)) := by
  refine Cx_of Tryz.func95 rfl Tryz.ntmps95 rfl fun w0 M0 => ?_
  refine JC_seq ?_
  refine JC_region ?_
  refine JL_pd rfl (det_assign rfl) ?_
  refine JL_nil ?_
  refine JE_seq ?_
  refine JC_seq ?_
  refine JC_region ?_
  refine JL_pd rfl (det_move rfl) ?_
  refine JL_pd rfl (det_move rfl) ?_
  refine JL_pd rfl (det_leq rfl rfl) ?_
  refine JL_pd rfl (det_move rfl) ?_
  refine JL_split (d0 := 10) rfl (fun h1 => ?_) (fun h1 => ?_)
  · refine JL_guard rfl rfl h1 ?_
    refine JL_pd rfl (det_move rfl) ?_
    refine JL_guard rfl rfl h1 ?_
    refine JL_pd rfl (det_move rfl) ?_
    refine JL_guard rfl rfl h1 ?_
    refine JL_pd rfl (det_leq rfl rfl) ?_
    refine JL_pd rfl (det_pick_t rfl h1 rfl) ?_
    refine JL_pd rfl (det_assign rfl) ?_
    refine JL_nil ?_
    refine JE_seq ?_
    refine JC_ret ?_
    refine JE_out (.inl rfl) () (results1 Tryz.results95 (res_tmp rfl)) ?_ (List.Perm.refl _) (fun _ _ => trivial)
    (simp_all [inI])
    (try omega)
  · refine JL_skip rfl rfl h1 rfl ?_
    refine JL_skip rfl rfl h1 rfl ?_
    refine JL_skip rfl rfl h1 rfl ?_
    refine JL_pd rfl (det_pick_f rfl h1 rfl) ?_
    refine JL_pd rfl (det_assign rfl) ?_
    refine JL_nil ?_
    refine JE_seq ?_
    refine JC_ret ?_
    refine JE_out (.inl rfl) () (results1 Tryz.results95 (res_tmp rfl)) ?_ (List.Perm.refl _) (fun _ _ => trivial)
    (simp_all [inI])
    (try omega)
theorem few_j (n : Int) : Cv Tryz.prog 185 [I n] KTrue (.bool (inI n 0 12)) := by
  refine Cx_of Tryz.func185 rfl Tryz.ntmps185 rfl fun w0 M0 => ?_
  refine JC_seq ?_
  refine JC_region ?_
  refine JL_pd rfl (det_assign rfl) ?_
  refine JL_nil ?_
  refine JE_seq ?_
  refine JC_seq ?_
  refine JC_region ?_
  refine JL_pd rfl (det_move rfl) ?_
  refine JL_step rfl rfl rfl (jo_callv rfl rfl Tryz.call95 rfl (within_j _ _ _)) fun _ => ?_
  refine JL_pd rfl (det_assign rfl) ?_
  refine JL_nil ?_
  refine JE_seq ?_
  refine JC_ret ?_
  refine JE_out (.inl rfl) () (results1 Tryz.results185 (res_tmp rfl)) ?_ (List.Perm.refl _) (fun _ _ => trivial)
  rfl
theorem hour_j (n : Int) : Cv Tryz.prog 134 [I n] KTrue (.bool (inI n 0 23)) := by
  refine Cx_of Tryz.func134 rfl Tryz.ntmps134 rfl fun w0 M0 => ?_
  refine JC_seq ?_
  refine JC_region ?_
  refine JL_pd rfl (det_assign rfl) ?_
  refine JL_nil ?_
  refine JE_seq ?_
  refine JC_seq ?_
  refine JC_region ?_
  refine JL_pd rfl (det_move rfl) ?_
  refine JL_step rfl rfl rfl (jo_callv rfl rfl Tryz.call95 rfl (within_j _ _ _)) fun _ => ?_
  refine JL_pd rfl (det_assign rfl) ?_
  refine JL_nil ?_
  refine JE_seq ?_
  refine JC_ret ?_
  refine JE_out (.inl rfl) () (results1 Tryz.results134 (res_tmp rfl)) ?_ (List.Perm.refl _) (fun _ _ => trivial)
  rfl
theorem weight_j (n : Int) : Cv Tryz.prog 94 [I n] KTrue (.bool (inI n 0 1000)) := by
  refine Cx_of Tryz.func94 rfl Tryz.ntmps94 rfl fun w0 M0 => ?_
  refine JC_seq ?_
  refine JC_region ?_
  refine JL_pd rfl (det_assign rfl) ?_
  refine JL_nil ?_
  refine JE_seq ?_
  refine JC_seq ?_
  refine JC_region ?_
  refine JL_pd rfl (det_move rfl) ?_
  refine JL_step rfl rfl rfl (jo_callv rfl rfl Tryz.call95 rfl (within_j _ _ _)) fun _ => ?_
  refine JL_pd rfl (det_assign rfl) ?_
  refine JL_nil ?_
  refine JE_seq ?_
  refine JC_ret ?_
  refine JE_out (.inl rfl) () (results1 Tryz.results94 (res_tmp rfl)) ?_ (List.Perm.refl _) (fun _ _ => trivial)
  rfl
set_option maxRecDepth 100000 in
theorem indexFuncI_j (p : Int → Bool) (F : Nat) (fs cs : List Value) (Kf : World → Prop) (eF : ∀ args w, (callFunc F args).run Tryz.prog w = .ok (.enter F args) w) (hF : ∀ x : Int, Cv Tryz.prog F (fs ++ [I x] ++ cs) Kf (.bool (p x))) (a : Option Addr) (cap : Nat) (xs : List Int) (hl : xs.length ≤ 9223372036854775807) :
    Cv Tryz.prog 187 [.slice a xs.length cap, .func (.func F) fs.toArray cs.toArray] (KAnd (KSl a xs.length cap encI xs) Kf) (I (idxOf p xs)) := by
  refine Cx_of Tryz.func187 rfl Tryz.ntmps187 rfl fun w0 M0 => ?_
  refine JC_seq ?_
  refine JC_region ?_
  refine JL_pd rfl (det_assign rfl) ?_
  refine JL_nil ?_
  refine JE_seq ?_
  refine JC_seq ?_
  refine JC_seq ?_
  refine JC_region ?_
  refine JL_pd rfl (det_move rfl) ?_
  refine JL_pd rfl (det_len rfl Tryz.runUnderlying31) ?_
  refine JL_pd rfl (det_move rfl) ?_
  refine JL_nil ?_
  refine JE_seq ?_
  refine JC_block ?_
  -- stop: loop
  refine JC_loopF (γ := Nat) (fun i => i ≤ xs.length ∧ (xs.take i).any p = false) (fun i => [(8, I i)]) (fun _ => []) (fun i => xs.length - i) 0 ⟨Nat.zero_le _, rfl⟩ (stsub_consI rfl rfl stsub_nil) ht_nil ?_
  rintro i ⟨hi, hno⟩ K hK
  dsimp only [List.cons_append, List.nil_append]
  refine JC_seq ?_
  refine JC_region ?_
  refine JL_pd rfl (det_lss rfl rfl) ?_
  refine JL_nil ?_
  refine JE_seq ?_
  refine JC_seq ?_
  -- stop: cond
  refine JC_if rfl (fun h1 => ?_) (fun h1 => ?_)
  · have hi2 : i < xs.length := by omega
    refine JC_skip ?_
    refine JE_seq ?_
    refine JC_seq ?_
    refine JC_block ?_
    refine JC_seq ?_
    refine JC_region ?_
    refine JL_pd rfl (det_move rfl) ?_
    refine JL_pd rfl (det_assign rfl) ?_
    refine JL_nil ?_
    refine JE_seq ?_
    refine JC_seq ?_
    refine JC_region ?_
    refine JL_pd rfl (det_move rfl) ?_
    refine JL_pd rfl (det_move rfl) ?_
    refine JL_pd rfl (det_move rfl) ?_
    refine JL_dt rfl (det_indexAddr rfl rfl (by first | rfl | omega) (by first | assumption | omega | decide) Tryz.runUnderlying31 Tryz.sizeOf3) ?_
    refine JL_dt rfl (det_loadE rfl (by first | assumption | omega | decide) Tryz.isAgg3 rfl rfl) ?_
    -- stop: op  5 t16 := (call (Call (value t11) (t15) (3)))   <0 4>   109
    refine JL_step rfl rfl rfl (jo_callv rfl rfl eF rfl (hF xs[i])) fun _ => ?_
    refine JL_nil ?_
    refine JE_seq ?_
    -- stop: cond
    refine JC_cond rfl (fun h2 => ?_) (fun h2 => ?_)
    · refine JC_seq ?_
      refine JC_region ?_
      refine JL_pd rfl (det_move rfl) ?_
      refine JL_pd rfl (det_assign rfl) ?_
      refine JL_nil ?_
      refine JE_seq ?_
      refine JC_ret ?_
      refine JE_block_ret ?_
      refine JE_seq_ret ?_
      refine JE_then_ret ?_
      refine JE_block_ret ?_
      refine JE_seq_ret ?_
      -- stop: out
      refine JE_out (.inl rfl) () (results1 Tryz.results187 (res_tmp rfl)) (by rw [idxOf_hit hi2 hno h2]) (List.Perm.refl _) (fun _ _ => trivial)
    · refine JC_skip ?_
      refine JE_block ?_
      refine JE_seq ?_
      refine JC_region ?_
      refine JL_pd rfl (det_add rfl rfl ⟨by omega, by omega⟩) ?_
      refine JL_pd rfl (det_move rfl) ?_
      refine JL_nil ?_
      -- stop: end
      refine JE_roundF hK (i + 1) ⟨by omega, by rw [take_snoc hi2, List.any_append, hno]; simp [h2]⟩ (by omega) (stsub_consI rfl (by omega) stsub_nil) ht_nil
  · refine JC_exit ?_
    refine JE_seq_exit ?_
    refine JE_then_exit ?_
    refine JE_block_here ?_
    refine JE_seq ?_
    refine JC_seq ?_
    refine JC_region ?_
    refine JL_pd rfl (det_assign rfl) ?_
    refine JL_nil ?_
    refine JE_seq ?_
    refine JC_ret ?_
    -- stop: out
    obtain rfl : i = xs.length := by omega
    rw [List.take_length] at hno
    refine JE_out (.inl rfl) () (results1 Tryz.results187 (res_tmp rfl)) (by rw [idxOf_none hno]) (List.Perm.refl _) (fun _ _ => trivial)
theorem containsFuncI_j (p : Int → Bool) (F : Nat) (fs cs : List Value) (Kf : World → Prop) (eF : ∀ args w, (callFunc F args).run Tryz.prog w = .ok (.enter F args) w) (hF : ∀ x : Int, Cv Tryz.prog F (fs ++ [I x] ++ cs) Kf (.bool (p x))) (a : Option Addr) (cap : Nat) (xs : List Int) (hl : xs.length ≤ 9223372036854775807) :
    Cv Tryz.prog 137 [.slice a xs.length cap, .func (.func F) fs.toArray cs.toArray] (KAnd (KSl a xs.length cap encI xs) Kf) (.bool (xs.any p)) := by
  refine Cx_of Tryz.func137 rfl Tryz.ntmps137 rfl fun w0 M0 => ?_
  refine JC_seq ?_
  refine JC_region ?_
  refine JL_pd rfl (det_assign rfl) ?_
  refine JL_nil ?_
  refine JE_seq ?_
  refine JC_seq ?_
  refine JC_region ?_
  refine JL_pd rfl (det_move rfl) ?_
  refine JL_pd rfl (det_move rfl) ?_
  -- stop: op  2 t7 := (call (Call (value f187) (t5 t6) (31 119)))   <0 1>   125
  refine JL_step rfl rfl rfl (jo_callv rfl rfl Tryz.call187 rfl (indexFuncI_j p F fs cs Kf eF hF a cap xs hl)) fun _ => ?_
  refine JL_pd rfl (det_geq rfl rfl) ?_
  refine JL_pd rfl (det_assign rfl) ?_
  refine JL_nil ?_
  refine JE_seq ?_
  refine JC_ret ?_
  -- stop: out
  refine JE_out (.inl rfl) () (results1 Tryz.results137 (res_tmp rfl)) (by rw [show decide ((0 : Int) ≤ idxOf p xs) = xs.any p from idxOf_any]) (List.Perm.refl _) (fun _ _ => trivial)
theorem allI_1 (p : Int → Bool) (F : Nat) (fs cs : List Value) (Kf : World → Prop) (eF : ∀ args w, (callFunc F args).run Tryz.prog w = .ok (.enter F args) w) (hF : ∀ x : Int, Cv Tryz.prog F (fs ++ [I x] ++ cs) Kf (.bool (p x))) (b : Nat) (x : Int) :
    Cv Tryz.prog 138 [I x, .pointer (some ⟨b, 0, none⟩)] (KAnd (KBox b [.func (.func F) fs.toArray cs.toArray]) Kf) (.bool (!p x)) := by
  refine Cx_of Tryz.func138 rfl Tryz.ntmps138 rfl fun w0 M0 => ?_
  refine JC_seq ?_
  refine JC_region ?_
  refine JL_pd rfl (det_assign rfl) ?_
  refine JL_nil ?_
  refine JE_seq ?_
  refine JC_seq ?_
  refine JC_region ?_
  refine JL_dt rfl (det_loadK rfl Tryz.isAgg119 rfl) ?_
  refine JL_pd rfl (det_move rfl) ?_
  -- stop: op  2 t6 := (call (Call (value t4) (t5) (3)))   <0 1>   30
  refine JL_step rfl rfl rfl (jo_callv rfl rfl eF rfl (hF x)) fun _ => ?_
  refine JL_pd rfl (det_not rfl) ?_
  refine JL_pd rfl (det_assign rfl) ?_
  refine JL_nil ?_
  refine JE_seq ?_
  refine JC_ret ?_
  -- stop: out
  refine JE_out (.inl rfl) () (results1 Tryz.results138 (res_tmp rfl)) rfl (List.Perm.refl _) (fun _ _ => trivial)
theorem allI_j (p : Int → Bool) (F : Nat) (fs cs : List Value) (Kf : World → Prop) (eF : ∀ args w, (callFunc F args).run Tryz.prog w = .ok (.enter F args) w) (hF : ∀ x : Int, Cv Tryz.prog F (fs ++ [I x] ++ cs) Kf (.bool (p x))) (a : Option Addr) (cap : Nat) (xs : List Int) (hl : xs.length ≤ 9223372036854775807) :
    Cv Tryz.prog 96 [.slice a xs.length cap, .func (.func F) fs.toArray cs.toArray] (KAnd (KSl a xs.length cap encI xs) Kf) (.bool (xs.all p)) := by
  have hcf := fun b3 : Nat => containsFuncI_j (fun x => !p x) 138 [] [.pointer (some ⟨b3, 0, none⟩)] _ Tryz.call138 (allI_1 p F fs cs Kf eF hF b3) a cap xs hl
  refine Cx_of Tryz.func96 rfl Tryz.ntmps96 rfl fun w0 M0 => ?_
  refine JC_seq ?_
  refine JC_region ?_
  refine JL_step rfl rfl rfl (jo_box rfl rfl) fun b3 => ?_
  refine JL_pd rfl (det_assign rfl) ?_
  refine JL_nil ?_
  refine JE_seq ?_
  refine JC_seq ?_
  refine JC_region ?_
  refine JL_pd rfl (det_move rfl) ?_
  refine JL_pd rfl (det_makeFuncE rfl rfl) ?_
  -- stop: op  2 t7 := (call (Call (value f137) (t5 t6) (31 119)))   <0 1>   30
  refine JL_keep b3 noFp ?_
  refine JL_step rfl rfl rfl (jo_callv rfl rfl Tryz.call137 rfl (hcf b3)) fun _ => ?_
  refine JL_pd rfl (det_not rfl) ?_
  refine JL_pd rfl (det_assign rfl) ?_
  refine JL_nil ?_
  refine JE_seq ?_
  refine JC_ret ?_
  -- stop: out
  refine JE_out (.inl rfl) () (results1 Tryz.results96 (res_tmp rfl)) (by simp [List.all_eq_not_any_not]) (List.Perm.refl _) (fun _ _ => trivial)

set_option maxRecDepth 100000 in
theorem indexFuncO_j (p : Of → Bool) (F : Nat) (fs cs : List Value) (Kf : World → Prop) (eF : ∀ args w, (callFunc F args).run Tryz.prog w = .ok (.enter F args) w) (a : Option Addr) (cap : Nat) (xs : List Of) (hF : ∀ x ∈ xs, Cv Tryz.prog F (fs ++ [.agg #[I x.price, I x.am.g, I x.am.q, I x.am.s, I x.lo, I x.hi, I x.most]] ++ cs) Kf (.bool (p x))) (hl : xs.length ≤ 9223372036854775807) :
    Cv Tryz.prog 232 [.slice a xs.length cap, .func (.func F) fs.toArray cs.toArray] (KAnd (KSl a xs.length cap encO xs) Kf) (I (idxOf p xs)) := by
  refine Cx_of Tryz.func232 rfl Tryz.ntmps232 rfl fun w0 M0 => ?_
  refine JC_seq ?_
  refine JC_region ?_
  refine JL_pd rfl (det_assign rfl) ?_
  refine JL_nil ?_
  refine JE_seq ?_
  refine JC_seq ?_
  refine JC_seq ?_
  refine JC_region ?_
  refine JL_pd rfl (det_move rfl) ?_
  refine JL_pd rfl (det_len rfl Tryz.runUnderlying99) ?_
  refine JL_pd rfl (det_move rfl) ?_
  refine JL_nil ?_
  refine JE_seq ?_
  refine JC_block ?_
  -- stop: loop
  refine JC_loopF (γ := Nat) (fun i => i ≤ xs.length ∧ (xs.take i).any p = false) (fun i => [(8, I i)]) (fun _ => []) (fun i => xs.length - i) 0 ⟨Nat.zero_le _, rfl⟩ (stsub_consI rfl rfl stsub_nil) ht_nil ?_
  rintro i ⟨hi, hno⟩ K hK
  dsimp only [List.cons_append, List.nil_append]
  refine JC_seq ?_
  refine JC_region ?_
  refine JL_pd rfl (det_lss rfl rfl) ?_
  refine JL_nil ?_
  refine JE_seq ?_
  refine JC_seq ?_
  -- stop: cond
  refine JC_if rfl (fun h1 => ?_) (fun h1 => ?_)
  · have hi2 : i < xs.length := by omega
    refine JC_skip ?_
    refine JE_seq ?_
    refine JC_seq ?_
    refine JC_block ?_
    refine JC_seq ?_
    refine JC_region ?_
    refine JL_pd rfl (det_move rfl) ?_
    refine JL_pd rfl (det_assign rfl) ?_
    refine JL_nil ?_
    refine JE_seq ?_
    refine JC_seq ?_
    refine JC_region ?_
    refine JL_pd rfl (det_move rfl) ?_
    refine JL_pd rfl (det_move rfl) ?_
    refine JL_pd rfl (det_move rfl) ?_
    refine JL_dt rfl (det_indexAddr rfl rfl (by first | rfl | omega) (by first | assumption | omega | decide) Tryz.runUnderlying99 Tryz.sizeOf166) ?_
    refine JL_dt rfl (det_loadEA rfl (by first | assumption | omega | decide) Tryz.isAgg166 Tryz.sizeOf166 rfl rfl rfl) ?_
    -- stop: op  5 t16 := (call (Call (value t11) (t15) (166)))   <0 4>   109
    refine JL_step rfl rfl rfl (jo_callv rfl rfl eF rfl (hF xs[i] (List.getElem_mem hi2))) fun _ => ?_
    refine JL_nil ?_
    refine JE_seq ?_
    -- stop: cond
    refine JC_cond rfl (fun h2 => ?_) (fun h2 => ?_)
    · refine JC_seq ?_
      refine JC_region ?_
      refine JL_pd rfl (det_move rfl) ?_
      refine JL_pd rfl (det_assign rfl) ?_
      refine JL_nil ?_
      refine JE_seq ?_
      refine JC_ret ?_
      refine JE_block_ret ?_
      refine JE_seq_ret ?_
      refine JE_then_ret ?_
      refine JE_block_ret ?_
      refine JE_seq_ret ?_
      -- stop: out
      refine JE_out (.inl rfl) () (results1 Tryz.results232 (res_tmp rfl)) (by rw [idxOf_hit hi2 hno h2]) (List.Perm.refl _) (fun _ _ => trivial)
    · refine JC_skip ?_
      refine JE_block ?_
      refine JE_seq ?_
      refine JC_region ?_
      refine JL_pd rfl (det_add rfl rfl ⟨by omega, by omega⟩) ?_
      refine JL_pd rfl (det_move rfl) ?_
      refine JL_nil ?_
      -- stop: end
      refine JE_roundF hK (i + 1) ⟨by omega, by rw [take_snoc hi2, List.any_append, hno]; simp [h2]⟩ (by omega) (stsub_consI rfl (by omega) stsub_nil) ht_nil
  · refine JC_exit ?_
    refine JE_seq_exit ?_
    refine JE_then_exit ?_
    refine JE_block_here ?_
    refine JE_seq ?_
    refine JC_seq ?_
    refine JC_region ?_
    refine JL_pd rfl (det_assign rfl) ?_
    refine JL_nil ?_
    refine JE_seq ?_
    refine JC_ret ?_
    -- stop: out
    obtain rfl : i = xs.length := by omega
    rw [List.take_length] at hno
    refine JE_out (.inl rfl) () (results1 Tryz.results232 (res_tmp rfl)) (by rw [idxOf_none hno]) (List.Perm.refl _) (fun _ _ => trivial)
theorem containsFuncO_j (p : Of → Bool) (F : Nat) (fs cs : List Value) (Kf : World → Prop) (eF : ∀ args w, (callFunc F args).run Tryz.prog w = .ok (.enter F args) w) (a : Option Addr) (cap : Nat) (xs : List Of) (hF : ∀ x ∈ xs, Cv Tryz.prog F (fs ++ [.agg #[I x.price, I x.am.g, I x.am.q, I x.am.s, I x.lo, I x.hi, I x.most]] ++ cs) Kf (.bool (p x))) (hl : xs.length ≤ 9223372036854775807) :
    Cv Tryz.prog 220 [.slice a xs.length cap, .func (.func F) fs.toArray cs.toArray] (KAnd (KSl a xs.length cap encO xs) Kf) (.bool (xs.any p)) := by
  refine Cx_of Tryz.func220 rfl Tryz.ntmps220 rfl fun w0 M0 => ?_
  refine JC_seq ?_
  refine JC_region ?_
  refine JL_pd rfl (det_assign rfl) ?_
  refine JL_nil ?_
  refine JE_seq ?_
  refine JC_seq ?_
  refine JC_region ?_
  refine JL_pd rfl (det_move rfl) ?_
  refine JL_pd rfl (det_move rfl) ?_
  -- stop: op  2 t7 := (call (Call (value f232) (t5 t6) (99 291)))   <0 1>   125
  refine JL_step rfl rfl rfl (jo_callv rfl rfl Tryz.call232 rfl (indexFuncO_j p F fs cs Kf eF a cap xs hF hl)) fun _ => ?_
  refine JL_pd rfl (det_geq rfl rfl) ?_
  refine JL_pd rfl (det_assign rfl) ?_
  refine JL_nil ?_
  refine JE_seq ?_
  refine JC_ret ?_
  -- stop: out
  refine JE_out (.inl rfl) () (results1 Tryz.results220 (res_tmp rfl)) (by rw [show decide ((0 : Int) ≤ idxOf p xs) = xs.any p from idxOf_any]) (List.Perm.refl _) (fun _ _ => trivial)
theorem allO_1 (p : Of → Bool) (F : Nat) (fs cs : List Value) (Kf : World → Prop) (eF : ∀ args w, (callFunc F args).run Tryz.prog w = .ok (.enter F args) w) (x : Of) (hF : Cv Tryz.prog F (fs ++ [.agg #[I x.price, I x.am.g, I x.am.q, I x.am.s, I x.lo, I x.hi, I x.most]] ++ cs) Kf (.bool (p x))) (b : Nat) :
    Cv Tryz.prog 221 [.agg #[I x.price, I x.am.g, I x.am.q, I x.am.s, I x.lo, I x.hi, I x.most], .pointer (some ⟨b, 0, none⟩)] (KAnd (KBox b [.func (.func F) fs.toArray cs.toArray]) Kf) (.bool (!p x)) := by
  refine Cx_of Tryz.func221 rfl Tryz.ntmps221 rfl fun w0 M0 => ?_
  refine JC_seq ?_
  refine JC_region ?_
  refine JL_step rfl rfl rfl (jo_box rfl rfl) fun b2 => ?_
  refine JL_pd rfl (det_assign rfl) ?_
  refine JL_nil ?_
  refine JE_seq ?_
  refine JC_seq ?_
  refine JC_region ?_
  refine JL_dt rfl (det_loadK rfl Tryz.isAgg291 rfl) ?_
  refine JL_dt rfl (det_loadKA rfl Tryz.isAgg166 Tryz.sizeOf166 rfl rfl) ?_
  -- stop: op  2 t6 := (call (Call (value t4) (t5) (166)))   <0 1>   30
  refine JL_step rfl rfl rfl (jo_callv rfl rfl eF rfl (hF)) fun _ => ?_
  refine JL_pd rfl (det_not rfl) ?_
  refine JL_pd rfl (det_assign rfl) ?_
  refine JL_nil ?_
  refine JE_seq ?_
  refine JC_ret ?_
  -- stop: out
  refine JE_out (.inl rfl) () (results1 Tryz.results221 (res_tmp rfl)) rfl (List.Perm.refl _) (fun _ _ => trivial)
theorem allO_j (p : Of → Bool) (F : Nat) (fs cs : List Value) (Kf : World → Prop) (eF : ∀ args w, (callFunc F args).run Tryz.prog w = .ok (.enter F args) w) (a : Option Addr) (cap : Nat) (xs : List Of) (hF : ∀ x ∈ xs, Cv Tryz.prog F (fs ++ [.agg #[I x.price, I x.am.g, I x.am.q, I x.am.s, I x.lo, I x.hi, I x.most]] ++ cs) Kf (.bool (p x))) (hl : xs.length ≤ 9223372036854775807) :
    Cv Tryz.prog 183 [.slice a xs.length cap, .func (.func F) fs.toArray cs.toArray] (KAnd (KSl a xs.length cap encO xs) Kf) (.bool (xs.all p)) := by
  have hcf := fun b3 : Nat => containsFuncO_j (fun x => !p x) 221 [] [.pointer (some ⟨b3, 0, none⟩)] _ Tryz.call221 a cap xs (fun x hx => allO_1 p F fs cs Kf eF x (hF x hx) b3) hl
  refine Cx_of Tryz.func183 rfl Tryz.ntmps183 rfl fun w0 M0 => ?_
  refine JC_seq ?_
  refine JC_region ?_
  refine JL_step rfl rfl rfl (jo_box rfl rfl) fun b3 => ?_
  refine JL_pd rfl (det_assign rfl) ?_
  refine JL_nil ?_
  refine JE_seq ?_
  refine JC_seq ?_
  refine JC_region ?_
  refine JL_pd rfl (det_move rfl) ?_
  refine JL_pd rfl (det_makeFuncE rfl rfl) ?_
  -- stop: op  2 t7 := (call (Call (value f220) (t5 t6) (99 291)))   <0 1>   30
  refine JL_keep b3 noFp ?_
  refine JL_step rfl rfl rfl (jo_callv rfl rfl Tryz.call220 rfl (hcf b3)) fun _ => ?_
  refine JL_pd rfl (det_not rfl) ?_
  refine JL_pd rfl (det_assign rfl) ?_
  refine JL_nil ?_
  refine JE_seq ?_
  refine JC_ret ?_
  -- stop: out
  refine JE_out (.inl rfl) () (results1 Tryz.results183 (res_tmp rfl)) (by simp [List.all_eq_not_any_not]) (List.Perm.refl _) (fun _ _ => trivial)
end Go.Proofs.YthpkgabckklojaaGreat.Bl

/- Walks of bill: Share. -/
namespace Go.Proofs.YthpkgabckklojaaGreat.Bl
open Go.RowKit Go.Shelf

theorem paid_bd {sum : Int} {ws : List Int} (V : VSh sum ws) (hW : ws.sum ≠ 0) (k : Nat) : 0 ≤ paidV sum ws k ∧ paidV sum ws k ≤ sum ∧ 0 ≤ sum * (ws.take k).sum ∧ sum * (ws.take k).sum ≤ 10000000000 := by
  have h1 := sum_bd ws V.w
  have h2 := sum_bd (ws.take k) fun y hy => V.w y (List.mem_of_mem_take hy)
  have h3 := take_le ws k V.w
  have hn := V.n
  have s0 := V.s0
  have s1 := V.s1
  have hmul : 0 ≤ sum * (ws.take k).sum := Int.mul_nonneg s0 h2.1
  have hle : sum * (ws.take k).sum ≤ sum * ws.sum := Int.mul_le_mul_of_nonneg_left h3 s0
  have hle2 : sum * (ws.take k).sum ≤ 1000000 * 10000 := Int.mul_le_mul s1 (by omega) h2.1 (by omega)
  unfold paidV
  rw [Int.tdiv_eq_ediv_of_nonneg hmul]
  refine ⟨Int.ediv_nonneg hmul h1.1, ?_, hmul, by omega⟩
  have := Int.ediv_le_ediv (a := sum * (ws.take k).sum) (b := sum * ws.sum) (show 0 < ws.sum by omega) hle
  rw [Int.mul_ediv_cancel _ hW] at this
  exact this
theorem Share_je (sum : Int) (a : Option Addr) (c : Nat) (ws : List Int) (h : shareE sum ws ≠ 0) : Cv Tryz.prog 39 [I sum, .slice a ws.length c] (KSl a ws.length c encI ws) (.tuple #[.slice none 0 0, I (shareE sum ws)]) := by
  refine Cx_of Tryz.func39 rfl Tryz.ntmps39 rfl fun w0 M0 => ?_
  refine JC_seq ?_
  refine JC_region ?_
  refine JL_pd rfl (det_assign rfl) ?_
  refine JL_pd rfl (det_assign rfl) ?_
  refine JL_nil ?_
  refine JE_seq ?_
  refine JC_seq ?_
  refine JC_region ?_
  refine JL_pd rfl (det_assign rfl) ?_
  refine JL_nil ?_
  refine JE_seq ?_
  refine JC_seq ?_
  refine JC_region ?_
  refine JL_pd rfl (det_assign rfl) ?_
  refine JL_nil ?_
  refine JE_seq ?_
  refine JC_seq ?_
  refine JC_block ?_
  refine JC_seq ?_
  refine JC_region ?_
  refine JL_pd rfl (det_move rfl) ?_
  refine JL_pd rfl (det_len rfl Tryz.runUnderlying31) ?_
  refine JL_pd rfl (det_gtr rfl rfl) ?_
  refine JL_pd rfl (det_assign rfl) ?_
  refine JL_nil ?_
  refine JE_seq ?_
  -- stop: cond
  refine JC_pure (p := ws.length ≤ 9223372036854775807) (by intro w h; exact h.1.bd) fun hz => ?_
  have hallj := allI_j (fun n => inI n 0 1000) 94 [] [] KTrue Tryz.call94 (fun n => weight_j n) a c ws hz
  refine JC_if rfl (fun h1 => ?_) (fun h1 => ?_)
  · refine JC_seq ?_
    refine JC_region ?_
    refine JL_pd rfl (det_assign rfl) ?_
    refine JL_pd rfl (det_assign rfl) ?_
    refine JL_nil ?_
    refine JE_seq ?_
    refine JC_ret ?_
    refine JE_block_ret ?_
    refine JE_seq_ret ?_
    -- stop: out
    refine JE_out (.inl rfl) () (results2 Tryz.results39 (res_tmp rfl) (res_tmp rfl)) (by unfold shareE; rw [if_pos (by omega)]) (List.Perm.refl _) (fun _ _ => trivial)
  · refine JC_seq ?_
    refine JC_region ?_
    refine JL_pd rfl (det_move rfl) ?_
    refine JL_step rfl rfl rfl (jo_callv rfl rfl Tryz.call95 rfl (within_j _ _ _)) fun _ => ?_
    refine JL_pd rfl (det_not rfl) ?_
    refine JL_pd rfl (det_move rfl) ?_
    -- stop: guard 3
    refine JL_join1 6 19 (.bool (!inI sum 0 1000000 || !(ws.all fun n => inI n 0 1000))) (fun hj => ?_) ?_
    · refine JL_split (d0 := 23) rfl (fun q1 => ?_) (fun q1 => ?_)
      · refine JL_skip rfl rfl q1 rfl ?_
        refine JL_skip rfl rfl q1 rfl ?_
        refine JL_skip rfl rfl q1 rfl ?_
        refine JL_skip rfl rfl q1 rfl ?_
        refine JL_pd rfl (det_pick_t rfl q1 rfl) ?_
        refine JL_pd rfl (det_assign rfl) ?_
        exact hj (by kernel_rfl) (stsub_consB rfl (by clear hj; first | rfl | (simp only [q1, Bool.and_true, Bool.true_and, Bool.false_and, Bool.and_false, Bool.or_true, Bool.true_or, Bool.or_false, Bool.false_or, Bool.not_true, Bool.not_false]; done) | (simp [q1]; done) | (simp at q1; done) | (simp [q1] <;> omega) | (exfalso; simp at q1; omega)) stsub_nil)
      · refine JL_guard rfl rfl q1 ?_
        refine JL_pd rfl (det_move rfl) ?_
        refine JL_guard rfl rfl q1 ?_
        refine JL_pd rfl (det_move rfl) ?_
        refine JL_guard rfl rfl q1 ?_
        refine JL_step rfl rfl rfl (jo_callv rfl rfl Tryz.call96 rfl (hallj)) fun _ => ?_
        refine JL_guard rfl rfl q1 ?_
        refine JL_pd rfl (det_not rfl) ?_
        refine JL_pd rfl (det_pick_f rfl q1 rfl) ?_
        refine JL_pd rfl (det_assign rfl) ?_
        exact hj (by kernel_rfl) (stsub_consB rfl (by clear hj; first | rfl | (simp only [q1, Bool.and_true, Bool.true_and, Bool.false_and, Bool.and_false, Bool.or_true, Bool.true_or, Bool.or_false, Bool.false_or, Bool.not_true, Bool.not_false]; done) | (simp [q1]; done) | (simp at q1; done) | (simp [q1] <;> omega) | (exfalso; simp at q1; omega)) stsub_nil)
    refine JL_nil ?_
    refine JE_seq ?_
    -- stop: cond
    refine JC_cond rfl (fun h2 => ?_) (fun h2 => ?_)
    · refine JC_seq ?_
      refine JC_region ?_
      refine JL_pd rfl (det_assign rfl) ?_
      refine JL_pd rfl (det_assign rfl) ?_
      refine JL_nil ?_
      refine JE_seq ?_
      refine JC_ret ?_
      refine JE_block_ret ?_
      refine JE_seq_ret ?_
      -- stop: out
      refine JE_out (.inl rfl) () (results2 Tryz.results39 (res_tmp rfl) (res_tmp rfl)) (by unfold shareE; rw [if_neg (by omega), if_pos (by revert h2; cases inI sum 0 1000000 <;> cases (ws.all fun n => inI n 0 1000) <;> simp)]) (List.Perm.refl _) (fun _ _ => trivial)
    · have hc : (inI sum 0 1000000 && ws.all fun n => inI n 0 1000) = true := by revert h2; cases inI sum 0 1000000 <;> cases (ws.all fun n => inI n 0 1000) <;> simp
      have hw : ∀ x ∈ ws, 0 ≤ x ∧ x ≤ 1000 := fun x hx => by rw [Bool.and_eq_true, List.all_eq_true] at hc; exact inI_iff.1 (hc.2 x hx)
      refine JC_skip ?_
      refine JE_block ?_
      refine JE_seq ?_
      refine JC_seq ?_
      refine JC_seq ?_
      refine JC_region ?_
      refine JL_pd rfl (det_move rfl) ?_
      refine JL_pd rfl (det_len rfl Tryz.runUnderlying31) ?_
      refine JL_pd rfl (det_move rfl) ?_
      refine JL_nil ?_
      refine JE_seq ?_
      refine JC_block ?_
      -- stop: loop
      refine JC_loopF (γ := Nat) (fun i => i ≤ ws.length) (fun i => [(31, I i), (7, I (ws.take i).sum)]) (fun _ => []) (fun i => ws.length - i) 0 (Nat.zero_le _) (stsub_consI rfl rfl (stsub_consI rfl (by rw [List.take_zero]; rfl) stsub_nil)) ht_nil ?_
      intro i hi K hK
      dsimp only [List.cons_append, List.nil_append]
      have hbd := sum_bd (ws.take i) fun y hy => hw y (List.mem_of_mem_take hy)
      rw [List.length_take] at hbd
      refine JC_seq ?_
      refine JC_region ?_
      refine JL_pd rfl (det_lss rfl rfl) ?_
      refine JL_nil ?_
      refine JE_seq ?_
      refine JC_seq ?_
      -- stop: cond
      refine JC_if rfl (fun h3 => ?_) (fun h3 => ?_)
      · have hi2 : i < ws.length := by omega
        have hts := take_sum hi2
        have hwi := hw _ (List.getElem_mem hi2)
        refine JC_skip ?_
        refine JE_seq ?_
        refine JC_seq ?_
        refine JC_block ?_
        refine JC_seq ?_
        refine JC_region ?_
        refine JL_dt rfl (det_indexAddr rfl rfl (by first | rfl | omega) (by first | assumption | omega | decide) Tryz.runUnderlying31 Tryz.sizeOf3) ?_
        refine JL_dt rfl (det_loadE rfl (by first | assumption | omega | decide) Tryz.isAgg3 rfl rfl) ?_
        refine JL_pd rfl (det_assign rfl) ?_
        refine JL_nil ?_
        refine JE_seq ?_
        refine JC_region ?_
        refine JL_pd rfl (det_move rfl) ?_
        refine JL_pd rfl (det_move rfl) ?_
        refine JL_pd rfl (det_add rfl rfl ⟨by omega, by omega⟩) ?_
        refine JL_pd rfl (det_assign rfl) ?_
        refine JL_nil ?_
        refine JE_block ?_
        refine JE_seq ?_
        refine JC_region ?_
        refine JL_pd rfl (det_add rfl rfl ⟨by omega, by omega⟩) ?_
        refine JL_pd rfl (det_move rfl) ?_
        refine JL_nil ?_
        -- stop: end
        exact JE_roundF hK (i + 1) (by omega) (by omega) (stsub_consI rfl (by omega) (stsub_consI rfl (by omega) stsub_nil)) ht_nil
      · obtain rfl : i = ws.length := by omega
        rw [List.take_length]
        refine JC_exit ?_
        refine JE_seq_exit ?_
        refine JE_then_exit ?_
        refine JE_block_here ?_
        refine JE_seq ?_
        refine JC_seq ?_
        refine JC_seq ?_
        refine JC_region ?_
        refine JL_pd rfl (det_move rfl) ?_
        refine JL_pd rfl (det_eql rfl rfl) ?_
        refine JL_nil ?_
        refine JE_seq ?_
        -- stop: cond
        refine JC_if rfl (fun h4 => ?_) (fun h4 => ?_)
        · refine JC_seq ?_
          refine JC_region ?_
          refine JL_pd rfl (det_assign rfl) ?_
          refine JL_pd rfl (det_assign rfl) ?_
          refine JL_nil ?_
          refine JE_seq ?_
          refine JC_ret ?_
          refine JE_seq_ret ?_
          -- stop: out
          refine JE_out (.inl rfl) () (results2 Tryz.results39 (res_tmp rfl) (res_tmp rfl)) (by unfold shareE; rw [if_neg (by omega), if_neg (by rw [hc]; decide), if_pos h4]) (List.Perm.refl _) (fun _ _ => trivial)
        · exact absurd (by unfold shareE; rw [if_neg (by omega), if_neg (by rw [hc]; decide), if_neg h4]) h
theorem Share_jo (sum : Int) (a : Option Addr) (c : Nat) (ws : List Int) (h : shareE sum ws = 0) : Cr Tryz.prog 39 [I sum, .slice a ws.length c] (KSl a ws.length c encI ws) (fun q : Option Addr × Nat => .tuple #[.slice q.1 ws.length q.2, I 0]) (fun q => KSl q.1 ws.length q.2 encI (sharesV sum ws)) := by
  obtain ⟨V, hW⟩ := share_of h
  have hn := V.n
  have hw := V.w
  have hall : (ws.all fun n => inI n 0 1000) = true := List.all_eq_true.2 fun x hx => inI_iff.2 (hw x hx)
  have hsi : inI sum 0 1000000 = true := inI_iff.2 ⟨V.s0, V.s1⟩
  have hwj := within_j sum 0 1000000
  rw [hsi] at hwj
  refine Cx_of Tryz.func39 rfl Tryz.ntmps39 rfl fun w0 M0 => ?_
  refine JC_seq ?_
  refine JC_region ?_
  refine JL_pd rfl (det_assign rfl) ?_
  refine JL_pd rfl (det_assign rfl) ?_
  refine JL_nil ?_
  refine JE_seq ?_
  refine JC_seq ?_
  refine JC_region ?_
  refine JL_pd rfl (det_assign rfl) ?_
  refine JL_nil ?_
  refine JE_seq ?_
  refine JC_seq ?_
  refine JC_region ?_
  refine JL_pd rfl (det_assign rfl) ?_
  refine JL_nil ?_
  refine JE_seq ?_
  refine JC_seq ?_
  refine JC_block ?_
  refine JC_seq ?_
  refine JC_region ?_
  refine JL_pd rfl (det_move rfl) ?_
  refine JL_pd rfl (det_len rfl Tryz.runUnderlying31) ?_
  refine JL_pd rfl (det_gtr rfl rfl) ?_
  refine JL_pd rfl (det_assign rfl) ?_
  refine JL_nil ?_
  refine JE_seq ?_
  -- stop: cond
  have hallj := allI_j (fun n => inI n 0 1000) 94 [] [] KTrue Tryz.call94 (fun n => weight_j n) a c ws (by omega)
  rw [hall] at hallj
  refine JC_if rfl (fun h1 => ?_) (fun h1 => ?_)
  · exact absurd h1 (by omega)
  refine JC_seq ?_
  refine JC_region ?_
  refine JL_pd rfl (det_move rfl) ?_
  refine JL_step rfl rfl rfl (jo_callv rfl rfl Tryz.call95 rfl (hwj)) fun _ => ?_
  refine JL_pd rfl (det_not rfl) ?_
  refine JL_pd rfl (det_move rfl) ?_
  -- stop: guard 3
  refine JL_join1 6 19 (.bool false) (fun hj => ?_) ?_
  · refine JL_split (d0 := 23) rfl (fun q2 => ?_) (fun q2 => ?_)
    · refine JL_skip rfl rfl q2 rfl ?_
      refine JL_skip rfl rfl q2 rfl ?_
      refine JL_skip rfl rfl q2 rfl ?_
      refine JL_skip rfl rfl q2 rfl ?_
      refine JL_pd rfl (det_pick_t rfl q2 rfl) ?_
      refine JL_pd rfl (det_assign rfl) ?_
      exact hj (by kernel_rfl) (stsub_consB rfl (by clear hj; first | rfl | (simp only [q2, Bool.and_true, Bool.true_and, Bool.false_and, Bool.and_false, Bool.or_true, Bool.true_or, Bool.or_false, Bool.false_or, Bool.not_true, Bool.not_false]; done) | (simp [q2]; done) | (simp at q2; done) | (simp [q2] <;> omega) | (exfalso; simp at q2; omega)) stsub_nil)
    · refine JL_guard rfl rfl q2 ?_
      refine JL_pd rfl (det_move rfl) ?_
      refine JL_guard rfl rfl q2 ?_
      refine JL_pd rfl (det_move rfl) ?_
      refine JL_guard rfl rfl q2 ?_
      refine JL_step rfl rfl rfl (jo_callv rfl rfl Tryz.call96 rfl (hallj)) fun _ => ?_
      refine JL_guard rfl rfl q2 ?_
      refine JL_pd rfl (det_not rfl) ?_
      refine JL_pd rfl (det_pick_f rfl q2 rfl) ?_
      refine JL_pd rfl (det_assign rfl) ?_
      exact hj (by kernel_rfl) (stsub_consB rfl (by clear hj; first | rfl | (simp only [q2, Bool.and_true, Bool.true_and, Bool.false_and, Bool.and_false, Bool.or_true, Bool.true_or, Bool.or_false, Bool.false_or, Bool.not_true, Bool.not_false]; done) | (simp [q2]; done) | (simp at q2; done) | (simp [q2] <;> omega) | (exfalso; simp at q2; omega)) stsub_nil)
  refine JL_nil ?_
  refine JE_seq ?_
  refine JC_condF rfl rfl ?_
  refine JC_skip ?_
  refine JE_block ?_
  refine JE_seq ?_
  refine JC_seq ?_
  refine JC_seq ?_
  refine JC_region ?_
  refine JL_pd rfl (det_move rfl) ?_
  refine JL_pd rfl (det_len rfl Tryz.runUnderlying31) ?_
  refine JL_pd rfl (det_move rfl) ?_
  refine JL_nil ?_
  refine JE_seq ?_
  refine JC_block ?_
  -- stop: loop
  refine JC_loopF (γ := Nat) (fun i => i ≤ ws.length) (fun i => [(31, I i), (7, I (ws.take i).sum)]) (fun _ => []) (fun i => ws.length - i) 0 (Nat.zero_le _) (stsub_consI rfl rfl (stsub_consI rfl (by rw [List.take_zero]; rfl) stsub_nil)) ht_nil ?_
  intro i hi K hK
  dsimp only [List.cons_append, List.nil_append]
  have hbd := sum_bd (ws.take i) fun y hy => hw y (List.mem_of_mem_take hy)
  rw [List.length_take] at hbd
  refine JC_seq ?_
  refine JC_region ?_
  refine JL_pd rfl (det_lss rfl rfl) ?_
  refine JL_nil ?_
  refine JE_seq ?_
  refine JC_seq ?_
  -- stop: cond
  refine JC_if rfl (fun h3 => ?_) (fun h3 => ?_)
  · have hi2 : i < ws.length := by omega
    have hts := take_sum hi2
    have hwi := hw _ (List.getElem_mem hi2)
    refine JC_skip ?_
    refine JE_seq ?_
    refine JC_seq ?_
    refine JC_block ?_
    refine JC_seq ?_
    refine JC_region ?_
    refine JL_dt rfl (det_indexAddr rfl rfl (by first | rfl | omega) (by first | assumption | omega | decide) Tryz.runUnderlying31 Tryz.sizeOf3) ?_
    refine JL_dt rfl (det_loadE rfl (by first | assumption | omega | decide) Tryz.isAgg3 rfl rfl) ?_
    refine JL_pd rfl (det_assign rfl) ?_
    refine JL_nil ?_
    refine JE_seq ?_
    refine JC_region ?_
    refine JL_pd rfl (det_move rfl) ?_
    refine JL_pd rfl (det_move rfl) ?_
    refine JL_pd rfl (det_add rfl rfl ⟨by omega, by omega⟩) ?_
    refine JL_pd rfl (det_assign rfl) ?_
    refine JL_nil ?_
    refine JE_block ?_
    refine JE_seq ?_
    refine JC_region ?_
    refine JL_pd rfl (det_add rfl rfl ⟨by omega, by omega⟩) ?_
    refine JL_pd rfl (det_move rfl) ?_
    refine JL_nil ?_
    -- stop: end
    exact JE_roundF hK (i + 1) (by omega) (by omega) (stsub_consI rfl (by omega) (stsub_consI rfl (by omega) stsub_nil)) ht_nil
  · obtain rfl : i = ws.length := by omega
    rw [List.take_length]
    refine JC_exit ?_
    refine JE_seq_exit ?_
    refine JE_then_exit ?_
    refine JE_block_here ?_
    refine JE_seq ?_
    refine JC_seq ?_
    refine JC_seq ?_
    refine JC_region ?_
    refine JL_pd rfl (det_move rfl) ?_
    refine JL_pd rfl (det_eql rfl rfl) ?_
    refine JL_nil ?_
    refine JE_seq ?_
    -- stop: cond
    refine JC_if rfl (fun h4 => ?_) (fun h4 => ?_)
    · exact absurd h4 hW
    refine JC_skip ?_
    refine JE_seq ?_
    refine JC_seq ?_
    refine JC_region ?_
    refine JL_pd rfl (det_assign rfl) ?_
    refine JL_nil ?_
    refine JE_seq ?_
    refine JC_seq ?_
    refine JC_region ?_
    refine JL_pd rfl (det_assign rfl) ?_
    refine JL_pd rfl (det_assign rfl) ?_
    refine JL_nil ?_
    refine JE_seq ?_
    refine JC_seq ?_
    refine JC_seq ?_
    refine JC_region ?_
    refine JL_pd rfl (det_move rfl) ?_
    refine JL_pd rfl (det_len rfl Tryz.runUnderlying31) ?_
    refine JL_pd rfl (det_move rfl) ?_
    refine JL_nil ?_
    refine JE_seq ?_
    refine JC_block ?_
    -- stop: loop
    refine JC_nil 3 1 ?_
    refine JC_loopF (γ := Nat × Value) (fun q => q.1 ≤ ws.length) (fun q => [(43, I q.1), (10, q.2), (11, I (ws.take q.1).sum), (12, I (paidV sum ws q.1))]) (fun q => [ow q.2 3 1 q.1 ((sharesN sum ws q.1).flatMap encI)]) (fun q => ws.length - q.1) (0, .slice none 0 0) (Nat.zero_le _) (stsub_consI rfl rfl (stsub_cons rfl (stsub_consI rfl (by rw [List.take_zero]; rfl) (stsub_consI rfl (by unfold paidV; simp) stsub_nil)))) (ht_ow rfl rfl ht_nil) ?_
    rintro ⟨i, v⟩ hi K hK
    dsimp only [List.cons_append, List.nil_append] at hi ⊢
    have hbd := sum_bd (ws.take i) fun y hy => hw y (List.mem_of_mem_take hy)
    rw [List.length_take] at hbd
    refine JC_seq ?_
    refine JC_region ?_
    refine JL_pd rfl (det_lss rfl rfl) ?_
    refine JL_nil ?_
    refine JE_seq ?_
    refine JC_seq ?_
    -- stop: cond
    refine JC_if rfl (fun h5 => ?_) (fun h5 => ?_)
    · have hi2 : i < ws.length := by omega
      have hts := take_sum hi2
      have hwi := hw _ (List.getElem_mem hi2)
      obtain ⟨p1, p2, p3, p4⟩ := paid_bd V hW i
      obtain ⟨q1, q2, q3, q4⟩ := paid_bd V hW (i + 1)
      have hp : (sum * ((ws.take i).sum + ws[i])).tdiv ws.sum = paidV sum ws (i + 1) := by unfold paidV; rw [hts]
      have s1 := V.s1
      rw [← hp] at q1 q2
      rw [hts] at q3 q4
      have hsn : sharesN sum ws (i + 1) = sharesN sum ws i ++ [paidV sum ws (i + 1) - paidV sum ws i] := rfl
      rw [← hp] at hsn
      refine JC_skip ?_
      refine JE_seq ?_
      refine JC_seq ?_
      refine JC_block ?_
      refine JC_seq ?_
      refine JC_region ?_
      refine JL_dt rfl (det_indexAddr rfl rfl (by first | rfl | omega) (by first | assumption | omega | decide) Tryz.runUnderlying31 Tryz.sizeOf3) ?_
      refine JL_dt rfl (det_loadE rfl (by first | assumption | omega | decide) Tryz.isAgg3 rfl rfl) ?_
      refine JL_pd rfl (det_assign rfl) ?_
      refine JL_nil ?_
      refine JE_seq ?_
      refine JC_seq ?_
      refine JC_region ?_
      refine JL_pd rfl (det_move rfl) ?_
      refine JL_pd rfl (det_move rfl) ?_
      refine JL_pd rfl (det_add rfl rfl ⟨by omega, by omega⟩) ?_
      refine JL_pd rfl (det_assign rfl) ?_
      refine JL_nil ?_
      refine JE_seq ?_
      refine JC_seq ?_
      refine JC_region ?_
      refine JL_pd rfl (det_move rfl) ?_
      refine JL_pd rfl (det_move rfl) ?_
      refine JL_pd rfl (det_move rfl) ?_
      refine JL_pd rfl (det_mul rfl rfl ⟨by omega, by omega⟩) ?_
      refine JL_pd rfl (det_move rfl) ?_
      refine JL_pd rfl (det_quo rfl rfl (by omega) ⟨by omega, by omega⟩) ?_
      refine JL_pd rfl (det_move rfl) ?_
      refine JL_pd rfl (det_sub rfl rfl ⟨by omega, by omega⟩) ?_
      refine JL_step rfl rfl rfl (jo_buildSlice rfl (bsl_31_1_0 _)) fun b58 => ?_
      refine JL_step rfl rfl rfl (jo_append el_31 rfl rfl rfl rfl (by omega)) fun b59 => ?_
      refine JL_pd rfl (det_assign rfl) ?_
      refine JL_nil ?_
      refine JE_seq ?_
      refine JC_region ?_
      refine JL_pd rfl (det_move rfl) ?_
      refine JL_pd rfl (det_move rfl) ?_
      refine JL_pd rfl (det_mul rfl rfl ⟨by omega, by omega⟩) ?_
      refine JL_pd rfl (det_move rfl) ?_
      refine JL_pd rfl (det_quo rfl rfl (by omega) ⟨by omega, by omega⟩) ?_
      refine JL_pd rfl (det_assign rfl) ?_
      refine JL_nil ?_
      refine JE_block ?_
      refine JE_seq ?_
      refine JC_region ?_
      refine JL_pd rfl (det_add rfl rfl ⟨by omega, by omega⟩) ?_
      refine JL_pd rfl (det_move rfl) ?_
      refine JL_nil ?_
      -- stop: end
      exact JE_roundF hK (i + 1, .slice (some ⟨b59.1, 0, none⟩) (i + 1) b59.2) (by simp only; omega) (by simp only; omega) (stsub_consI rfl (by simp only; omega) (stsub_cons rfl (stsub_consI rfl (by simp only; omega) (stsub_consI rfl (by simp only; omega) stsub_nil)))) (ht_ow rfl (by rw [hsn, List.flatMap_append]; rfl) ht_nil)
    · obtain rfl : i = ws.length := by omega
      refine JC_slice (enc := encI) (v := v) (sharesN sum ws ws.length) noFp rfl (sharesN_len ..).symm ?_
      rintro av cv rfl
      refine JC_exit ?_
      refine JE_seq_exit ?_
      refine JE_then_exit ?_
      refine JE_block_here ?_
      refine JE_seq ?_
      refine JC_seq ?_
      refine JC_region ?_
      refine JL_pd rfl (det_move rfl) ?_
      refine JL_pd rfl (det_assign rfl) ?_
      refine JL_pd rfl (det_assign rfl) ?_
      refine JL_nil ?_
      refine JE_seq ?_
      refine JC_ret ?_
      -- stop: out
      refine JE_out (.inl rfl) (av, cv) (results2 Tryz.results39 (res_tmp rfl) (res_tmp rfl)) rfl (List.Perm.refl _) (fun w h => h.1)
end Go.Proofs.YthpkgabckklojaaGreat.Bl

/- Walks of bill: tariffs. -/
namespace Go.Proofs.YthpkgabckklojaaGreat.Bl
open Go.RowKit Go.Shelf

theorem numbers_j (a : Am) : Cv Tryz.prog 92 [.agg #[I a.g, I a.q, I a.s]] KTrue (.agg #[I a.g, I a.q, I a.s]) := by
  refine Cx_of Tryz.func92 rfl Tryz.ntmps92 rfl fun w0 M0 => ?_
  refine JC_seq ?_
  refine JC_region ?_
  refine JL_step rfl rfl rfl (jo_box rfl rfl) fun b1 => ?_
  refine JL_step rfl rfl rfl (jo_alloc0 Tryz.zeroValue189 rfl) fun b2 => ?_
  refine JL_nil ?_
  refine JE_seq ?_
  refine JC_seq ?_
  refine JC_region ?_
  refine JL_pd rfl (det_fieldAddr rfl fo_101_0) ?_
  refine JL_dt rfl (det_loadK rfl Tryz.isAgg3 rfl) ?_
  refine JL_pd rfl (det_fieldAddr rfl fo_101_1) ?_
  refine JL_dt rfl (det_loadK rfl Tryz.isAgg3 rfl) ?_
  refine JL_pd rfl (det_fieldAddr rfl fo_101_2) ?_
  refine JL_dt rfl (det_loadK rfl Tryz.isAgg3 rfl) ?_
  refine JL_pd rfl (det_build rfl (bld_189_0_1_2 _ _ _)) ?_
  refine JL_step0 rfl rfl (jo_store rfl rfl rfl (by first | (simp only [splice_norm]; done) | (simp only [splice_norm]; rfl) | rfl) Tryz.sizeOf189 rfl rfl) fun _ => ?_
  refine JL_nil ?_
  refine JE_seq ?_
  refine JC_ret ?_
  -- stop: out
  refine JE_out (.inl rfl) () (results1 Tryz.results92 (res_box rfl Tryz.isAgg189 Tryz.sizeOf189 rfl)) rfl (List.Perm.refl _) (fun _ _ => trivial)
theorem amvalid_j (a : Am) : Cv Tryz.prog 133 [.agg #[I a.g, I a.q, I a.s]] KTrue (.bool (amOk a)) := by
  have hall := fun b3 : Nat => allI_j (fun n => inI n 0 12) 185 [] [] KTrue Tryz.call185 (fun n => few_j n) (some ⟨b3, 0, none⟩) 3 [a.g, a.q, a.s] (show 3 ≤ _ by decide)
  refine Cx_of Tryz.func133 rfl Tryz.ntmps133 rfl fun w0 M0 => ?_
  refine JC_seq ?_
  refine JC_region ?_
  refine JL_step rfl rfl rfl (jo_box rfl rfl) fun b1 => ?_
  refine JL_pd rfl (det_assign rfl) ?_
  refine JL_nil ?_
  refine JE_seq ?_
  refine JC_seq ?_
  refine JC_region ?_
  refine JL_dt rfl (det_loadKA rfl Tryz.isAgg101 Tryz.sizeOf101 rfl rfl) ?_
  refine JL_step rfl rfl rfl (jo_callv rfl rfl Tryz.call92 rfl (numbers_j a)) fun _ => ?_
  refine JL_step rfl rfl rfl (jo_alloc0 Tryz.zeroValue189 rfl) fun b3 => ?_
  refine JL_step0 rfl rfl (jo_store rfl rfl rfl (by first | (simp only [splice_norm]; done) | (simp only [splice_norm]; rfl) | rfl) Tryz.sizeOf189 rfl rfl) fun _ => ?_
  refine JL_nil ?_
  refine JE_seq ?_
  refine JC_seq ?_
  refine JC_region ?_
  refine JL_pd rfl (det_sliceArr rfl Tryz.runUnderlying189 Tryz.sizeOf3) ?_
  refine JL_lit (enc := encI) b3 3 [a.g, a.q, a.s] noFp rfl rfl (by decide) ?_
  refine JL_step rfl rfl rfl (jo_callv rfl rfl Tryz.call96 rfl (hall b3)) fun _ => ?_
  refine JL_pd rfl (det_assign rfl) ?_
  refine JL_nil ?_
  refine JE_seq ?_
  refine JC_ret ?_
  -- stop: out
  refine JE_out (.inl rfl) () (results1 Tryz.results133 (res_tmp rfl)) (by unfold amOk; simp [Bool.and_assoc]) (List.Perm.refl _) (fun _ _ => trivial)
theorem ofvalid_j (o : Of) : Cv Tryz.prog 184 [.agg #[I o.price, I o.am.g, I o.am.q, I o.am.s, I o.lo, I o.hi, I o.most]] KTrue (.bool (ofOk o)) := by
  refine Cx_of Tryz.func184 rfl Tryz.ntmps184 rfl fun w0 M0 => ?_
  refine JC_seq ?_
  refine JC_region ?_
  refine JL_step rfl rfl rfl (jo_box rfl rfl) fun b1 => ?_
  refine JL_pd rfl (det_assign rfl) ?_
  refine JL_nil ?_
  refine JE_seq ?_
  refine JC_seq ?_
  refine JC_region ?_
  refine JL_pd rfl (det_fieldAddr rfl fo_166_0) ?_
  refine JL_dt rfl (det_loadK rfl Tryz.isAgg3 rfl) ?_
  refine JL_step rfl rfl rfl (jo_callv rfl rfl Tryz.call95 rfl (within_j _ _ _)) fun _ => ?_
  refine JL_pd rfl (det_move rfl) ?_
  -- stop: guard 3
  refine JL_join1 31 2 (.bool (ofOk o)) (fun hj => ?_) ?_
  · refine JL_split (d0 := 6) rfl (fun q1 => ?_) (fun q1 => ?_)
    · refine JL_guard rfl rfl q1 ?_
      refine JL_pd rfl (det_fieldAddr rfl fo_166_1) ?_
      refine JL_guard rfl rfl q1 ?_
      refine JL_dt rfl (det_loadKA rfl Tryz.isAgg101 Tryz.sizeOf101 rfl rfl) ?_
      refine JL_guard rfl rfl q1 ?_
      refine JL_step rfl rfl rfl (jo_callv rfl rfl Tryz.call133 rfl (amvalid_j _)) fun _ => ?_
      refine JL_pd rfl (det_pick_t rfl q1 rfl) ?_
      refine JL_pd rfl (det_move rfl) ?_
      refine JL_split (d0 := 11) rfl (fun q2 => ?_) (fun q2 => ?_)
      · refine JL_guard rfl rfl q2 ?_
        refine JL_pd rfl (det_fieldAddr rfl fo_166_2) ?_
        refine JL_guard rfl rfl q2 ?_
        refine JL_pd rfl (det_fieldAddr rfl fo_164_0) ?_
        refine JL_guard rfl rfl q2 ?_
        refine JL_dt rfl (det_loadK rfl Tryz.isAgg3 rfl) ?_
        refine JL_guard rfl rfl q2 ?_
        refine JL_step rfl rfl rfl (jo_callv rfl rfl Tryz.call134 rfl (hour_j _)) fun _ => ?_
        refine JL_pd rfl (det_pick_t rfl q2 rfl) ?_
        refine JL_pd rfl (det_move rfl) ?_
        refine JL_split (d0 := 17) rfl (fun q3 => ?_) (fun q3 => ?_)
        · refine JL_guard rfl rfl q3 ?_
          refine JL_pd rfl (det_fieldAddr rfl fo_166_2) ?_
          refine JL_guard rfl rfl q3 ?_
          refine JL_pd rfl (det_fieldAddr rfl fo_164_1) ?_
          refine JL_guard rfl rfl q3 ?_
          refine JL_dt rfl (det_loadK rfl Tryz.isAgg3 rfl) ?_
          refine JL_guard rfl rfl q3 ?_
          refine JL_step rfl rfl rfl (jo_callv rfl rfl Tryz.call134 rfl (hour_j _)) fun _ => ?_
          refine JL_pd rfl (det_pick_t rfl q3 rfl) ?_
          refine JL_pd rfl (det_move rfl) ?_
          refine JL_split (d0 := 23) rfl (fun q4 => ?_) (fun q4 => ?_)
          · refine JL_guard rfl rfl q4 ?_
            refine JL_pd rfl (det_fieldAddr rfl fo_166_2) ?_
            refine JL_guard rfl rfl q4 ?_
            refine JL_pd rfl (det_fieldAddr rfl fo_164_0) ?_
            refine JL_guard rfl rfl q4 ?_
            refine JL_dt rfl (det_loadK rfl Tryz.isAgg3 rfl) ?_
            refine JL_guard rfl rfl q4 ?_
            refine JL_pd rfl (det_fieldAddr rfl fo_166_2) ?_
            refine JL_guard rfl rfl q4 ?_
            refine JL_pd rfl (det_fieldAddr rfl fo_164_1) ?_
            refine JL_guard rfl rfl q4 ?_
            refine JL_dt rfl (det_loadK rfl Tryz.isAgg3 rfl) ?_
            refine JL_guard rfl rfl q4 ?_
            refine JL_pd rfl (det_leq rfl rfl) ?_
            refine JL_pd rfl (det_pick_t rfl q4 rfl) ?_
            refine JL_pd rfl (det_move rfl) ?_
            refine JL_split (d0 := 32) rfl (fun q5 => ?_) (fun q5 => ?_)
            · refine JL_guard rfl rfl q5 ?_
              refine JL_pd rfl (det_fieldAddr rfl fo_166_3) ?_
              refine JL_guard rfl rfl q5 ?_
              refine JL_dt rfl (det_loadK rfl Tryz.isAgg3 rfl) ?_
              refine JL_guard rfl rfl q5 ?_
              refine JL_step rfl rfl rfl (jo_callv rfl rfl Tryz.call185 rfl (few_j _)) fun _ => ?_
              refine JL_pd rfl (det_pick_t rfl q5 rfl) ?_
              refine JL_pd rfl (det_assign rfl) ?_
              exact hj (by kernel_rfl) (stsub_consB rfl (by clear hj; first | rfl | (simp only [ofOk, q1, q2, q3, q4, q5, Bool.and_true, Bool.true_and, Bool.false_and, Bool.and_false, Bool.or_true, Bool.true_or, Bool.or_false, Bool.false_or, Bool.not_true, Bool.not_false]; done) | (simp [ofOk, q1, q2, q3, q4, q5]; done) | (simp [ofOk] at q1; done) | (simp [ofOk] at q2; done) | (simp [ofOk] at q3; done) | (simp [ofOk] at q4; done) | (simp [ofOk] at q5; done) | (simp [ofOk, q1, q2, q3, q4, q5] <;> omega) | (exfalso; simp [ofOk] at q1 q2 q3 q4 q5; omega) | (simp [q2, q3, q4, q5, ofOk] at q1; done) | (simp [q1, q3, q4, q5, ofOk] at q2; done) | (simp [q1, q2, q4, q5, ofOk] at q3; done) | (simp [q1, q2, q3, q5, ofOk] at q4; done) | (simp [q1, q2, q3, q4, ofOk] at q5; done)) stsub_nil)
            · refine JL_skip rfl rfl q5 rfl ?_
              refine JL_skip rfl rfl q5 rfl ?_
              refine JL_skip rfl rfl q5 rfl ?_
              refine JL_pd rfl (det_pick_f rfl q5 rfl) ?_
              refine JL_pd rfl (det_assign rfl) ?_
              exact hj (by kernel_rfl) (stsub_consB rfl (by clear hj; first | rfl | (simp only [ofOk, q1, q2, q3, q4, q5, Bool.and_true, Bool.true_and, Bool.false_and, Bool.and_false, Bool.or_true, Bool.true_or, Bool.or_false, Bool.false_or, Bool.not_true, Bool.not_false]; done) | (simp [ofOk, q1, q2, q3, q4, q5]; done) | (simp [ofOk] at q1; done) | (simp [ofOk] at q2; done) | (simp [ofOk] at q3; done) | (simp [ofOk] at q4; done) | (simp [ofOk] at q5; done) | (simp [ofOk, q1, q2, q3, q4, q5] <;> omega) | (exfalso; simp [ofOk] at q1 q2 q3 q4 q5; omega) | (simp [q2, q3, q4, q5, ofOk] at q1; done) | (simp [q1, q3, q4, q5, ofOk] at q2; done) | (simp [q1, q2, q4, q5, ofOk] at q3; done) | (simp [q1, q2, q3, q5, ofOk] at q4; done) | (simp [q1, q2, q3, q4, ofOk] at q5; done)) stsub_nil)
          · refine JL_skip rfl rfl q4 rfl ?_
            refine JL_skip rfl rfl q4 rfl ?_
            refine JL_skip rfl rfl q4 rfl ?_
            refine JL_skip rfl rfl q4 rfl ?_
            refine JL_skip rfl rfl q4 rfl ?_
            refine JL_skip rfl rfl q4 rfl ?_
            refine JL_skip rfl rfl q4 rfl ?_
            refine JL_pd rfl (det_pick_f rfl q4 rfl) ?_
            refine JL_pd rfl (det_move rfl) ?_
            refine JL_skip rfl rfl rfl rfl ?_
            refine JL_skip rfl rfl rfl rfl ?_
            refine JL_skip rfl rfl rfl rfl ?_
            refine JL_pd rfl (det_pick_f rfl rfl rfl) ?_
            refine JL_pd rfl (det_assign rfl) ?_
            exact hj (by kernel_rfl) (stsub_consB rfl (by clear hj; first | rfl | (simp only [ofOk, q1, q2, q3, q4, Bool.and_true, Bool.true_and, Bool.false_and, Bool.and_false, Bool.or_true, Bool.true_or, Bool.or_false, Bool.false_or, Bool.not_true, Bool.not_false]; done) | (simp [ofOk, q1, q2, q3, q4]; done) | (simp [ofOk] at q1; done) | (simp [ofOk] at q2; done) | (simp [ofOk] at q3; done) | (simp [ofOk] at q4; done) | (simp [ofOk, q1, q2, q3, q4] <;> omega) | (exfalso; simp [ofOk] at q1 q2 q3 q4; omega) | (simp [q2, q3, q4, ofOk] at q1; done) | (simp [q1, q3, q4, ofOk] at q2; done) | (simp [q1, q2, q4, ofOk] at q3; done) | (simp [q1, q2, q3, ofOk] at q4; done)) stsub_nil)
        · refine JL_skip rfl rfl q3 rfl ?_
          refine JL_skip rfl rfl q3 rfl ?_
          refine JL_skip rfl rfl q3 rfl ?_
          refine JL_skip rfl rfl q3 rfl ?_
          refine JL_pd rfl (det_pick_f rfl q3 rfl) ?_
          refine JL_pd rfl (det_move rfl) ?_
          refine JL_skip rfl rfl rfl rfl ?_
          refine JL_skip rfl rfl rfl rfl ?_
          refine JL_skip rfl rfl rfl rfl ?_
          refine JL_skip rfl rfl rfl rfl ?_
          refine JL_skip rfl rfl rfl rfl ?_
          refine JL_skip rfl rfl rfl rfl ?_
          refine JL_skip rfl rfl rfl rfl ?_
          refine JL_pd rfl (det_pick_f rfl rfl rfl) ?_
          refine JL_pd rfl (det_move rfl) ?_
          refine JL_skip rfl rfl rfl rfl ?_
          refine JL_skip rfl rfl rfl rfl ?_
          refine JL_skip rfl rfl rfl rfl ?_
          refine JL_pd rfl (det_pick_f rfl rfl rfl) ?_
          refine JL_pd rfl (det_assign rfl) ?_
          exact hj (by kernel_rfl) (stsub_consB rfl (by clear hj; first | rfl | (simp only [ofOk, q1, q2, q3, Bool.and_true, Bool.true_and, Bool.false_and, Bool.and_false, Bool.or_true, Bool.true_or, Bool.or_false, Bool.false_or, Bool.not_true, Bool.not_false]; done) | (simp [ofOk, q1, q2, q3]; done) | (simp [ofOk] at q1; done) | (simp [ofOk] at q2; done) | (simp [ofOk] at q3; done) | (simp [ofOk, q1, q2, q3] <;> omega) | (exfalso; simp [ofOk] at q1 q2 q3; omega) | (simp [q2, q3, ofOk] at q1; done) | (simp [q1, q3, ofOk] at q2; done) | (simp [q1, q2, ofOk] at q3; done)) stsub_nil)
      · refine JL_skip rfl rfl q2 rfl ?_
        refine JL_skip rfl rfl q2 rfl ?_
        refine JL_skip rfl rfl q2 rfl ?_
        refine JL_skip rfl rfl q2 rfl ?_
        refine JL_pd rfl (det_pick_f rfl q2 rfl) ?_
        refine JL_pd rfl (det_move rfl) ?_
        refine JL_skip rfl rfl rfl rfl ?_
        refine JL_skip rfl rfl rfl rfl ?_
        refine JL_skip rfl rfl rfl rfl ?_
        refine JL_skip rfl rfl rfl rfl ?_
        refine JL_pd rfl (det_pick_f rfl rfl rfl) ?_
        refine JL_pd rfl (det_move rfl) ?_
        refine JL_skip rfl rfl rfl rfl ?_
        refine JL_skip rfl rfl rfl rfl ?_
        refine JL_skip rfl rfl rfl rfl ?_
        refine JL_skip rfl rfl rfl rfl ?_
        refine JL_skip rfl rfl rfl rfl ?_
        refine JL_skip rfl rfl rfl rfl ?_
        refine JL_skip rfl rfl rfl rfl ?_
        refine JL_pd rfl (det_pick_f rfl rfl rfl) ?_
        refine JL_pd rfl (det_move rfl) ?_
        refine JL_skip rfl rfl rfl rfl ?_
        refine JL_skip rfl rfl rfl rfl ?_
        refine JL_skip rfl rfl rfl rfl ?_
        refine JL_pd rfl (det_pick_f rfl rfl rfl) ?_
        refine JL_pd rfl (det_assign rfl) ?_
        exact hj (by kernel_rfl) (stsub_consB rfl (by clear hj; first | rfl | (simp only [ofOk, q1, q2, Bool.and_true, Bool.true_and, Bool.false_and, Bool.and_false, Bool.or_true, Bool.true_or, Bool.or_false, Bool.false_or, Bool.not_true, Bool.not_false]; done) | (simp [ofOk, q1, q2]; done) | (simp [ofOk] at q1; done) | (simp [ofOk] at q2; done) | (simp [ofOk, q1, q2] <;> omega) | (exfalso; simp [ofOk] at q1 q2; omega) | (simp [q2, ofOk] at q1; done) | (simp [q1, ofOk] at q2; done)) stsub_nil)
    · refine JL_skip rfl rfl q1 rfl ?_
      refine JL_skip rfl rfl q1 rfl ?_
      refine JL_skip rfl rfl q1 rfl ?_
      refine JL_pd rfl (det_pick_f rfl q1 rfl) ?_
      refine JL_pd rfl (det_move rfl) ?_
      refine JL_skip rfl rfl rfl rfl ?_
      refine JL_skip rfl rfl rfl rfl ?_
      refine JL_skip rfl rfl rfl rfl ?_
      refine JL_skip rfl rfl rfl rfl ?_
      refine JL_pd rfl (det_pick_f rfl rfl rfl) ?_
      refine JL_pd rfl (det_move rfl) ?_
      refine JL_skip rfl rfl rfl rfl ?_
      refine JL_skip rfl rfl rfl rfl ?_
      refine JL_skip rfl rfl rfl rfl ?_
      refine JL_skip rfl rfl rfl rfl ?_
      refine JL_pd rfl (det_pick_f rfl rfl rfl) ?_
      refine JL_pd rfl (det_move rfl) ?_
      refine JL_skip rfl rfl rfl rfl ?_
      refine JL_skip rfl rfl rfl rfl ?_
      refine JL_skip rfl rfl rfl rfl ?_
      refine JL_skip rfl rfl rfl rfl ?_
      refine JL_skip rfl rfl rfl rfl ?_
      refine JL_skip rfl rfl rfl rfl ?_
      refine JL_skip rfl rfl rfl rfl ?_
      refine JL_pd rfl (det_pick_f rfl rfl rfl) ?_
      refine JL_pd rfl (det_move rfl) ?_
      refine JL_skip rfl rfl rfl rfl ?_
      refine JL_skip rfl rfl rfl rfl ?_
      refine JL_skip rfl rfl rfl rfl ?_
      refine JL_pd rfl (det_pick_f rfl rfl rfl) ?_
      refine JL_pd rfl (det_assign rfl) ?_
      exact hj (by kernel_rfl) (stsub_consB rfl (by clear hj; first | rfl | (simp only [ofOk, q1, Bool.and_true, Bool.true_and, Bool.false_and, Bool.and_false, Bool.or_true, Bool.true_or, Bool.or_false, Bool.false_or, Bool.not_true, Bool.not_false]; done) | (simp [ofOk, q1]; done) | (simp [ofOk] at q1; done) | (simp [ofOk, q1] <;> omega) | (exfalso; simp [ofOk] at q1; omega)) stsub_nil)
  refine JL_nil ?_
  refine JE_seq ?_
  refine JC_ret ?_
  -- stop: out
  refine JE_out (.inl rfl) () (results1 Tryz.results184 (res_tmp rfl)) rfl (List.Perm.refl _) (fun _ _ => trivial)
theorem CheckTariff_j (a : Option Addr) (c : Nat) (l : List Of) : Cv Tryz.prog 132 [.slice a l.length c] (KSl a l.length c encO l) (I (tarE l)) := by
  refine Cx_of Tryz.func132 rfl Tryz.ntmps132 rfl fun w0 M0 => ?_
  refine JC_seq ?_
  refine JC_region ?_
  refine JL_pd rfl (det_assign rfl) ?_
  refine JL_nil ?_
  refine JE_seq ?_
  refine JC_seq ?_
  refine JC_block ?_
  refine JC_seq ?_
  refine JC_region ?_
  refine JL_pd rfl (det_move rfl) ?_
  refine JL_pd rfl (det_len rfl Tryz.runUnderlying99) ?_
  refine JL_pd rfl (det_gtr rfl rfl) ?_
  refine JL_pd rfl (det_assign rfl) ?_
  refine JL_nil ?_
  refine JE_seq ?_
  -- stop: cond
  refine JC_pure (p := l.length ≤ 9223372036854775807) (by intro w h; exact h.1.bd) fun hz => ?_
  have hallj := allO_j ofOk 184 [] [] KTrue Tryz.call184 a c l (fun x _ => ofvalid_j x) hz
  refine JC_if rfl (fun h1 => ?_) (fun h1 => ?_)
  · refine JC_seq ?_
    refine JC_region ?_
    refine JL_pd rfl (det_assign rfl) ?_
    refine JL_nil ?_
    refine JE_seq ?_
    refine JC_ret ?_
    refine JE_block_ret ?_
    refine JE_seq_ret ?_
    -- stop: out
    refine JE_out (.inl rfl) () (results1 Tryz.results132 (res_tmp rfl)) (by unfold tarE; rw [if_pos (by omega)]) (List.Perm.refl _) (fun _ _ => trivial)
  · refine JC_seq ?_
    refine JC_region ?_
    refine JL_pd rfl (det_move rfl) ?_
    refine JL_step rfl rfl rfl (jo_callv rfl rfl Tryz.call183 rfl (hallj)) fun _ => ?_
    refine JL_pd rfl (det_not rfl) ?_
    refine JL_pd rfl (det_assign rfl) ?_
    refine JL_nil ?_
    refine JE_seq ?_
    -- stop: cond
    refine JC_cond rfl (fun h2 => ?_) (fun h2 => ?_)
    · refine JC_seq ?_
      refine JC_region ?_
      refine JL_pd rfl (det_assign rfl) ?_
      refine JL_nil ?_
      refine JE_seq ?_
      refine JC_ret ?_
      refine JE_block_ret ?_
      refine JE_seq_ret ?_
      -- stop: out
      refine JE_out (.inl rfl) () (results1 Tryz.results132 (res_tmp rfl)) (by unfold tarE; rw [if_neg (by omega), if_pos (by simpa using h2)]) (List.Perm.refl _) (fun _ _ => trivial)
    · refine JC_skip ?_
      refine JE_block ?_
      refine JE_seq ?_
      refine JC_seq ?_
      refine JC_region ?_
      refine JL_pd rfl (det_assign rfl) ?_
      refine JL_nil ?_
      refine JE_seq ?_
      refine JC_ret ?_
      -- stop: out
      refine JE_out (.inl rfl) () (results1 Tryz.results132 (res_tmp rfl)) (by unfold tarE; rw [if_neg (by omega), if_neg (by simpa using h2)]) (List.Perm.refl _) (fun _ _ => trivial)
def mostV (o : Of) (at_ : Int) : Int := if inI at_ o.lo o.hi = true then o.most else 0
theorem most_j (o : Of) (at_ : Int) : Cv Tryz.prog 88 [.agg #[I o.price, I o.am.g, I o.am.q, I o.am.s, I o.lo, I o.hi, I o.most], I at_] KTrue (I (mostV o at_)) := by
  refine Cx_of Tryz.func88 rfl Tryz.ntmps88 rfl fun w0 M0 => ?_
  refine JC_seq ?_
  refine JC_region ?_
  refine JL_step rfl rfl rfl (jo_box rfl rfl) fun b2 => ?_
  refine JL_pd rfl (det_assign rfl) ?_
  refine JL_nil ?_
  refine JE_seq ?_
  refine JC_seq ?_
  refine JC_seq ?_
  refine JC_region ?_
  refine JL_pd rfl (det_move rfl) ?_
  refine JL_pd rfl (det_fieldAddr rfl fo_166_2) ?_
  refine JL_pd rfl (det_fieldAddr rfl fo_164_0) ?_
  refine JL_dt rfl (det_loadK rfl Tryz.isAgg3 rfl) ?_
  refine JL_pd rfl (det_fieldAddr rfl fo_166_2) ?_
  refine JL_pd rfl (det_fieldAddr rfl fo_164_1) ?_
  refine JL_dt rfl (det_loadK rfl Tryz.isAgg3 rfl) ?_
  refine JL_step rfl rfl rfl (jo_callv rfl rfl Tryz.call95 rfl (within_j _ _ _)) fun _ => ?_
  refine JL_nil ?_
  refine JE_seq ?_
  -- stop: cond
  refine JC_cond rfl (fun h1 => ?_) (fun h1 => ?_)
  · refine JC_seq ?_
    refine JC_region ?_
    refine JL_pd rfl (det_fieldAddr rfl fo_166_3) ?_
    refine JL_dt rfl (det_loadK rfl Tryz.isAgg3 rfl) ?_
    refine JL_pd rfl (det_assign rfl) ?_
    refine JL_nil ?_
    refine JE_seq ?_
    refine JC_ret ?_
    refine JE_seq_ret ?_
    -- stop: out
    refine JE_out (.inl rfl) () (results1 Tryz.results88 (res_tmp rfl)) (by unfold mostV; rw [if_pos h1]) (List.Perm.refl _) (fun _ _ => trivial)
  · refine JC_skip ?_
    refine JE_seq ?_
    refine JC_seq ?_
    refine JC_region ?_
    refine JL_pd rfl (det_assign rfl) ?_
    refine JL_nil ?_
    refine JE_seq ?_
    refine JC_ret ?_
    -- stop: out
    refine JE_out (.inl rfl) () (results1 Tryz.results88 (res_tmp rfl)) (by unfold mostV; rw [if_neg (by rw [h1]; decide)]) (List.Perm.refl _) (fun _ _ => trivial)
theorem asked_j (a : Option Addr) (c : Nat) (l : List Of) (need : Am) (at_ : Int) : Cv Tryz.prog 86 [.slice a l.length c, .agg #[I need.g, I need.q, I need.s], I at_] (KSl a l.length c encO l) (I (askE l need at_)) := by
  refine Cx_of Tryz.func86 rfl Tryz.ntmps86 rfl fun w0 M0 => ?_
  refine JC_seq ?_
  refine JC_region ?_
  refine JL_step rfl rfl rfl (jo_box rfl rfl) fun b4 => ?_
  refine JL_pd rfl (det_assign rfl) ?_
  refine JL_nil ?_
  refine JE_seq ?_
  refine JC_seq ?_
  refine JC_seq ?_
  refine JC_region ?_
  refine JL_pd rfl (det_move rfl) ?_
  refine JL_step rfl rfl rfl (jo_callv rfl rfl Tryz.call132 rfl (CheckTariff_j a c l)) fun _ => ?_
  refine JL_pd rfl (det_assign rfl) ?_
  refine JL_nil ?_
  refine JE_seq ?_
  refine JC_seq ?_
  refine JC_region ?_
  refine JL_pd rfl (det_move rfl) ?_
  refine JL_pd rfl (det_neq rfl rfl) ?_
  refine JL_nil ?_
  refine JE_seq ?_
  -- stop: cond
  refine JC_ifn rfl (fun h1 => ?_) (fun h1 => ?_)
  · refine JC_seq ?_
    refine JC_region ?_
    refine JL_pd rfl (det_move rfl) ?_
    refine JL_pd rfl (det_assign rfl) ?_
    refine JL_nil ?_
    refine JE_seq ?_
    refine JC_ret ?_
    refine JE_seq_ret ?_
    -- stop: out
    refine JE_out (.inl rfl) () (results1 Tryz.results86 (res_tmp rfl)) (by unfold askE; rw [if_pos h1]) (List.Perm.refl _) (fun _ _ => trivial)
  · refine JC_skip ?_
    refine JE_seq ?_
    refine JC_seq ?_
    refine JC_seq ?_
    refine JC_region ?_
    refine JL_dt rfl (det_loadKA rfl Tryz.isAgg101 Tryz.sizeOf101 rfl rfl) ?_
    refine JL_step rfl rfl rfl (jo_callv rfl rfl Tryz.call133 rfl (amvalid_j need)) fun _ => ?_
    refine JL_pd rfl (det_not rfl) ?_
    refine JL_pd rfl (det_move rfl) ?_
    -- stop: guard 3
    refine JL_join1 4 20 (.bool (!(amOk need && inI at_ 0 23))) (fun hj => ?_) ?_
    · refine JL_split (d0 := 16) rfl (fun q6 => ?_) (fun q6 => ?_)
      · refine JL_skip rfl rfl q6 rfl ?_
        refine JL_skip rfl rfl q6 rfl ?_
        refine JL_skip rfl rfl q6 rfl ?_
        refine JL_pd rfl (det_pick_t rfl q6 rfl) ?_
        exact hj (by kernel_rfl) (stsub_consB rfl (by clear hj; first | rfl | (simp only [q6, Bool.and_true, Bool.true_and, Bool.false_and, Bool.and_false, Bool.or_true, Bool.true_or, Bool.or_false, Bool.false_or, Bool.not_true, Bool.not_false]; done) | (simp [q6]; done) | (simp at q6; done) | (simp [q6] <;> omega) | (exfalso; simp at q6; omega)) stsub_nil)
      · refine JL_guard rfl rfl q6 ?_
        refine JL_pd rfl (det_move rfl) ?_
        refine JL_guard rfl rfl q6 ?_
        refine JL_step rfl rfl rfl (jo_callv rfl rfl Tryz.call134 rfl (hour_j at_)) fun _ => ?_
        refine JL_guard rfl rfl q6 ?_
        refine JL_pd rfl (det_not rfl) ?_
        refine JL_pd rfl (det_pick_f rfl q6 rfl) ?_
        exact hj (by kernel_rfl) (stsub_consB rfl (by clear hj; first | rfl | (simp only [q6, Bool.and_true, Bool.true_and, Bool.false_and, Bool.and_false, Bool.or_true, Bool.true_or, Bool.or_false, Bool.false_or, Bool.not_true, Bool.not_false]; done) | (simp [q6]; done) | (simp at q6; done) | (simp [q6] <;> omega) | (exfalso; simp at q6; omega)) stsub_nil)
    refine JL_nil ?_
    refine JE_seq ?_
    -- stop: cond
    refine JC_cond rfl (fun h2 => ?_) (fun h2 => ?_)
    · refine JC_seq ?_
      refine JC_region ?_
      refine JL_pd rfl (det_assign rfl) ?_
      refine JL_nil ?_
      refine JE_seq ?_
      refine JC_ret ?_
      refine JE_seq_ret ?_
      -- stop: out
      refine JE_out (.inl rfl) () (results1 Tryz.results86 (res_tmp rfl)) (by unfold askE; rw [if_neg (by omega), if_pos (by rwa [Bool.not_eq_true'] at h2)]) (List.Perm.refl _) (fun _ _ => trivial)
    · refine JC_skip ?_
      refine JE_seq ?_
      refine JC_seq ?_
      refine JC_region ?_
      refine JL_pd rfl (det_assign rfl) ?_
      refine JL_nil ?_
      refine JE_seq ?_
      refine JC_ret ?_
      -- stop: out
      refine JE_out (.inl rfl) () (results1 Tryz.results86 (res_tmp rfl)) (by unfold askE; rw [if_neg (by omega), if_neg (by rw [Bool.not_eq_false'] at h2; rw [h2]; decide)]) (List.Perm.refl _) (fun _ _ => trivial)
/-- What is left of numbers, behind an offer. -/
def wo (n a : Am) : Am := ⟨max 0 (n.g - a.g), max 0 (n.q - a.q), max 0 (n.s - a.s)⟩
def woC (n a : Am) : Nat → List Value
  | 0 => [I n.g, I n.q, I n.s]
  | 1 => [I (max 0 (n.g - a.g)), I n.q, I n.s]
  | 2 => [I (max 0 (n.g - a.g)), I (max 0 (n.q - a.q)), I n.s]
  | _ => [I (max 0 (n.g - a.g)), I (max 0 (n.q - a.q)), I (max 0 (n.s - a.s))]
theorem without_j (n a : Am) (hn : -1000 ≤ n.g ∧ n.g ≤ 1000 ∧ -1000 ≤ n.q ∧ n.q ≤ 1000 ∧ -1000 ≤ n.s ∧ n.s ≤ 1000) (ha : VAm a) : Cv Tryz.prog 91 [.agg #[I n.g, I n.q, I n.s], .agg #[I a.g, I a.q, I a.s]] KTrue (.agg #[I ((wo n a)).g, I ((wo n a)).q, I ((wo n a)).s]) := by
  refine Cx_of Tryz.func91 rfl Tryz.ntmps91 rfl fun w0 M0 => ?_
  refine JC_seq ?_
  refine JC_region ?_
  refine JL_step rfl rfl rfl (jo_box rfl rfl) fun b2 => ?_
  refine JL_step rfl rfl rfl (jo_box rfl rfl) fun b3 => ?_
  refine JL_step rfl rfl rfl (jo_alloc0 Tryz.zeroValue189 rfl) fun b4 => ?_
  refine JL_nil ?_
  refine JE_seq ?_
  refine JC_seq ?_
  refine JC_seq ?_
  refine JC_region ?_
  refine JL_dt rfl (det_loadKA rfl Tryz.isAgg101 Tryz.sizeOf101 rfl rfl) ?_
  refine JL_step rfl rfl rfl (jo_callv rfl rfl Tryz.call92 rfl (numbers_j a)) fun _ => ?_
  refine JL_pd rfl (det_move rfl) ?_
  refine JL_nil ?_
  refine JE_seq ?_
  refine JC_block ?_
  -- stop: loop
  refine JC_loopF (γ := Nat) (fun i => i ≤ 3) (fun i => [(9, I i)]) (fun i => [bx b2 (woC n a i)]) (fun i => 3 - i) 0 (by decide) (stsub_consI rfl rfl stsub_nil) (ht_bx rfl ht_nil) ?_
  intro i hi K hK
  dsimp only [List.cons_append, List.nil_append]
  refine JC_seq ?_
  refine JC_region ?_
  refine JL_pd rfl (det_lss rfl rfl) ?_
  refine JL_nil ?_
  refine JE_seq ?_
  refine JC_seq ?_
  -- stop: cond
  refine JC_if rfl (fun h1 => ?_) (fun h1 => ?_)
  · obtain ⟨n1, n2, n3, n4, n5, n6⟩ := hn
    have a1 := ha.g0
    have a2 := ha.g1
    have a3 := ha.q0
    have a4 := ha.q1
    have a5 := ha.s0
    have a6 := ha.s1
    rcases (by omega : i = 0 ∨ i = 1 ∨ i = 2) with rfl | rfl | rfl
    · skip
      refine JC_skip ?_
      refine JE_seq ?_
      refine JC_seq ?_
      refine JC_block ?_
      refine JC_seq ?_
      refine JC_region ?_
      refine JL_pd rfl (det_move rfl) ?_
      refine JL_pd rfl (det_indexArrV (i := 0) rfl rfl rfl (by decide) Tryz.runUnderlying189 Tryz.sizeOf3 Tryz.isAgg3 rfl) ?_
      refine JL_pd rfl (det_assign rfl) ?_
      refine JL_pd rfl (det_assign rfl) ?_
      refine JL_nil ?_
      refine JE_seq ?_
      refine JC_region ?_
      refine JL_pd rfl (det_move rfl) ?_
      refine JL_pd rfl (det_move rfl) ?_
      refine JL_pd rfl (det_indexArr (i := 0) rfl rfl rfl (by decide) Tryz.runUnderlying189 Tryz.sizeOf3) ?_
      refine JL_dt rfl (det_loadK rfl Tryz.isAgg3 rfl) ?_
      refine JL_pd rfl (det_move rfl) ?_
      refine JL_pd rfl (det_sub rfl rfl ⟨by omega, by omega⟩) ?_
      refine JL_pd rfl (det_max rfl rfl) ?_
      refine JL_pd rfl (det_indexArr (i := 0) rfl rfl rfl (by decide) Tryz.runUnderlying189 Tryz.sizeOf3) ?_
      refine JL_step0 rfl rfl (jo_store rfl rfl rfl (by first | (simp only [splice_norm]; done) | (simp only [splice_norm]; rfl) | rfl) Tryz.sizeOf3 rfl rfl) fun _ => ?_
      refine JL_nil ?_
      refine JE_block ?_
      refine JE_seq ?_
      refine JC_region ?_
      refine JL_pd rfl (det_add rfl rfl ⟨by omega, by omega⟩) ?_
      refine JL_pd rfl (det_move rfl) ?_
      refine JL_nil ?_
      -- stop: end
      exact JE_roundF hK 1 (by decide) (by decide) (stsub_consI rfl rfl stsub_nil) (ht_bx rfl ht_nil)
    · skip
      refine JC_skip ?_
      refine JE_seq ?_
      refine JC_seq ?_
      refine JC_block ?_
      refine JC_seq ?_
      refine JC_region ?_
      refine JL_pd rfl (det_move rfl) ?_
      refine JL_pd rfl (det_indexArrV (i := 1) rfl rfl rfl (by decide) Tryz.runUnderlying189 Tryz.sizeOf3 Tryz.isAgg3 rfl) ?_
      refine JL_pd rfl (det_assign rfl) ?_
      refine JL_pd rfl (det_assign rfl) ?_
      refine JL_nil ?_
      refine JE_seq ?_
      refine JC_region ?_
      refine JL_pd rfl (det_move rfl) ?_
      refine JL_pd rfl (det_move rfl) ?_
      refine JL_pd rfl (det_indexArr (i := 1) rfl rfl rfl (by decide) Tryz.runUnderlying189 Tryz.sizeOf3) ?_
      refine JL_dt rfl (det_loadK rfl Tryz.isAgg3 rfl) ?_
      refine JL_pd rfl (det_move rfl) ?_
      refine JL_pd rfl (det_sub rfl rfl ⟨by omega, by omega⟩) ?_
      refine JL_pd rfl (det_max rfl rfl) ?_
      refine JL_pd rfl (det_indexArr (i := 1) rfl rfl rfl (by decide) Tryz.runUnderlying189 Tryz.sizeOf3) ?_
      refine JL_step0 rfl rfl (jo_store rfl rfl rfl (by first | (simp only [splice_norm]; done) | (simp only [splice_norm]; rfl) | rfl) Tryz.sizeOf3 rfl rfl) fun _ => ?_
      refine JL_nil ?_
      refine JE_block ?_
      refine JE_seq ?_
      refine JC_region ?_
      refine JL_pd rfl (det_add rfl rfl ⟨by omega, by omega⟩) ?_
      refine JL_pd rfl (det_move rfl) ?_
      refine JL_nil ?_
      -- stop: end
      exact JE_roundF hK 2 (by decide) (by decide) (stsub_consI rfl rfl stsub_nil) (ht_bx rfl ht_nil)
    · skip
      refine JC_skip ?_
      refine JE_seq ?_
      refine JC_seq ?_
      refine JC_block ?_
      refine JC_seq ?_
      refine JC_region ?_
      refine JL_pd rfl (det_move rfl) ?_
      refine JL_pd rfl (det_indexArrV (i := 2) rfl rfl rfl (by decide) Tryz.runUnderlying189 Tryz.sizeOf3 Tryz.isAgg3 rfl) ?_
      refine JL_pd rfl (det_assign rfl) ?_
      refine JL_pd rfl (det_assign rfl) ?_
      refine JL_nil ?_
      refine JE_seq ?_
      refine JC_region ?_
      refine JL_pd rfl (det_move rfl) ?_
      refine JL_pd rfl (det_move rfl) ?_
      refine JL_pd rfl (det_indexArr (i := 2) rfl rfl rfl (by decide) Tryz.runUnderlying189 Tryz.sizeOf3) ?_
      refine JL_dt rfl (det_loadK rfl Tryz.isAgg3 rfl) ?_
      refine JL_pd rfl (det_move rfl) ?_
      refine JL_pd rfl (det_sub rfl rfl ⟨by omega, by omega⟩) ?_
      refine JL_pd rfl (det_max rfl rfl) ?_
      refine JL_pd rfl (det_indexArr (i := 2) rfl rfl rfl (by decide) Tryz.runUnderlying189 Tryz.sizeOf3) ?_
      refine JL_step0 rfl rfl (jo_store rfl rfl rfl (by first | (simp only [splice_norm]; done) | (simp only [splice_norm]; rfl) | rfl) Tryz.sizeOf3 rfl rfl) fun _ => ?_
      refine JL_nil ?_
      refine JE_block ?_
      refine JE_seq ?_
      refine JC_region ?_
      refine JL_pd rfl (det_add rfl rfl ⟨by omega, by omega⟩) ?_
      refine JL_pd rfl (det_move rfl) ?_
      refine JL_nil ?_
      -- stop: end
      exact JE_roundF hK 3 (by decide) (by decide) (stsub_consI rfl rfl stsub_nil) (ht_bx rfl ht_nil)
  · obtain rfl : i = 3 := by omega
    refine JC_exit ?_
    refine JE_seq_exit ?_
    refine JE_then_exit ?_
    refine JE_block_here ?_
    refine JE_seq ?_
    refine JC_seq ?_
    refine JC_region ?_
    refine JL_dt rfl (det_loadKA rfl Tryz.isAgg189 Tryz.sizeOf189 rfl rfl) ?_
    refine JL_step0 rfl rfl (jo_store rfl rfl rfl (by first | (simp only [splice_norm]; done) | (simp only [splice_norm]; rfl) | rfl) Tryz.sizeOf189 rfl rfl) fun _ => ?_
    refine JL_nil ?_
    refine JE_seq ?_
    refine JC_ret ?_
    -- stop: out
    refine JE_out (.inl rfl) () (results1 Tryz.results91 (res_box rfl Tryz.isAgg189 Tryz.sizeOf189 rfl)) rfl (List.Perm.refl _) (fun _ _ => trivial)
end Go.Proofs.YthpkgabckklojaaGreat.Bl

/- Walks of bill: purchases compared. -/
namespace Go.Proofs.YthpkgabckklojaaGreat.Bl
open Go.RowKit Go.Shelf

/-- The first of some numbers that is not 0. -/
def orL : List Int → Int
  | [] => 0
  | x :: xs => if x = 0 then orL xs else x
theorem orL_drop : ∀ {xs : List Int} {i : Nat}, (∀ x ∈ xs.take i, x = 0) → orL xs = orL (xs.drop i)
  | [], i, _ => by simp
  | x :: xs, 0, _ => rfl
  | x :: xs, i + 1, h => by
    have hx : x = 0 := h x (by simp)
    rw [List.drop_succ_cons, ← orL_drop (fun y hy => h y (by rw [List.take_succ_cons]; exact List.mem_cons_of_mem _ hy))]
    show (if x = 0 then orL xs else x) = orL xs
    rw [if_pos hx]
set_option maxRecDepth 100000 in
theorem or_j (a : Option Addr) (c : Nat) (xs : List Int) : Cv Tryz.prog 80 [.slice a xs.length c] (KSl a xs.length c encI xs) (I (orL xs)) := by
  refine Cx_of Tryz.func80 rfl Tryz.ntmps80 rfl fun w0 M0 => ?_
  refine JC_seq ?_
  refine JC_region ?_
  refine JL_pd rfl (det_assign rfl) ?_
  refine JL_nil ?_
  refine JE_seq ?_
  refine JC_seq ?_
  refine JC_region ?_
  refine JL_pd rfl (det_assign rfl) ?_
  refine JL_nil ?_
  refine JE_seq ?_
  refine JC_seq ?_
  refine JC_seq ?_
  refine JC_region ?_
  refine JL_pd rfl (det_move rfl) ?_
  refine JL_pd rfl (det_len rfl Tryz.runUnderlying31) ?_
  refine JL_pd rfl (det_move rfl) ?_
  refine JL_nil ?_
  refine JE_seq ?_
  refine JC_block ?_
  -- stop: loop
  refine JC_pure (p := xs.length ≤ 9223372036854775807) (by intro w h; exact h.1.bd) fun hz => ?_
  refine JC_loopF (γ := Nat) (fun i => i ≤ xs.length ∧ ∀ x ∈ xs.take i, x = 0) (fun i => [(8, I i)]) (fun _ => []) (fun i => xs.length - i) 0 ⟨Nat.zero_le _, by simp⟩ (stsub_consI rfl rfl stsub_nil) ht_nil ?_
  rintro i ⟨hi, h0⟩ K hK
  dsimp only [List.cons_append, List.nil_append]
  refine JC_seq ?_
  refine JC_region ?_
  refine JL_pd rfl (det_lss rfl rfl) ?_
  refine JL_nil ?_
  refine JE_seq ?_
  refine JC_seq ?_
  -- stop: cond
  refine JC_if rfl (fun h1 => ?_) (fun h1 => ?_)
  · have hi2 : i < xs.length := by omega
    have hd := List.drop_eq_getElem_cons hi2
    refine JC_skip ?_
    refine JE_seq ?_
    refine JC_seq ?_
    refine JC_block ?_
    refine JC_seq ?_
    refine JC_region ?_
    refine JL_dt rfl (det_indexAddr rfl rfl (by first | rfl | omega) (by first | assumption | omega | decide) Tryz.runUnderlying31 Tryz.sizeOf3) ?_
    refine JL_dt rfl (det_loadE rfl (by first | assumption | omega | decide) Tryz.isAgg3 rfl rfl) ?_
    refine JL_pd rfl (det_assign rfl) ?_
    refine JL_nil ?_
    refine JE_seq ?_
    refine JC_seq ?_
    refine JC_region ?_
    refine JL_pd rfl (det_move rfl) ?_
    refine JL_pd rfl (det_move rfl) ?_
    refine JL_pd rfl (det_neq rfl rfl) ?_
    refine JL_nil ?_
    refine JE_seq ?_
    -- stop: cond
    refine JC_ifn rfl (fun h2 => ?_) (fun h2 => ?_)
    · refine JC_seq ?_
      refine JC_region ?_
      refine JL_pd rfl (det_move rfl) ?_
      refine JL_pd rfl (det_assign rfl) ?_
      refine JL_nil ?_
      refine JE_seq ?_
      refine JC_ret ?_
      refine JE_block_ret ?_
      refine JE_seq_ret ?_
      refine JE_then_ret ?_
      refine JE_block_ret ?_
      refine JE_seq_ret ?_
      -- stop: out
      refine JE_out (.inl rfl) () (results1 Tryz.results80 (res_tmp rfl)) (by rw [orL_drop h0, hd, orL, if_neg h2]) (List.Perm.refl _) (fun _ _ => trivial)
    · refine JC_skip ?_
      refine JE_block ?_
      refine JE_seq ?_
      refine JC_region ?_
      refine JL_pd rfl (det_add rfl rfl ⟨by omega, by omega⟩) ?_
      refine JL_pd rfl (det_move rfl) ?_
      refine JL_nil ?_
      -- stop: end
      exact JE_roundF hK (i + 1) ⟨by omega, fun x hx => by rw [take_snoc hi2] at hx; rcases List.mem_append.1 hx with hx | hx; exact h0 x hx; rw [List.mem_singleton.1 hx]; exact h2⟩ (by omega) (stsub_consI rfl (by omega) stsub_nil) ht_nil
  · refine JC_exit ?_
    refine JE_seq_exit ?_
    refine JE_then_exit ?_
    refine JE_block_here ?_
    refine JE_seq ?_
    refine JC_seq ?_
    refine JC_region ?_
    refine JL_pd rfl (det_move rfl) ?_
    refine JL_pd rfl (det_assign rfl) ?_
    refine JL_nil ?_
    refine JE_seq ?_
    refine JC_ret ?_
    -- stop: out
    obtain rfl : i = xs.length := by omega
    refine JE_out (.inl rfl) () (results1 Tryz.results80 (res_tmp rfl)) (by rw [orL_drop h0, List.drop_length]; rfl) (List.Perm.refl _) (fun _ _ => trivial)
/-- Two lists of numbers, by their first difference. -/
def cmpL : List Int → List Int → Int
  | [], [] => 0
  | [], _ :: _ => -1
  | _ :: _, [] => 1
  | x :: xs, y :: ys => if x < y then -1 else if y < x then 1 else cmpL xs ys
theorem cmpL_same : ∀ (zs xs ys : List Int), cmpL (zs ++ xs) (zs ++ ys) = cmpL xs ys
  | [], _, _ => rfl
  | z :: zs, xs, ys => by
    show (if z < z then -1 else if z < z then 1 else cmpL (zs ++ xs) (zs ++ ys)) = _
    rw [if_neg (Int.lt_irrefl z), if_neg (Int.lt_irrefl z), cmpL_same zs]
theorem cmpL_at {xs ys : List Int} {i : Nat} (h : xs.take i = ys.take i) : cmpL xs ys = cmpL (xs.drop i) (ys.drop i) := by
  conv => lhs; rw [← List.take_append_drop i xs, ← List.take_append_drop i ys, h]
  exact cmpL_same _ _ _
theorem isNaN_j (n : Int) : Cv Tryz.prog 222 [I n] KTrue (.bool false) := by
  refine Cx_of Tryz.func222 rfl Tryz.ntmps222 rfl fun w0 M0 => ?_
  refine JC_seq ?_
  refine JC_region ?_
  refine JL_pd rfl (det_assign rfl) ?_
  refine JL_nil ?_
  refine JE_seq ?_
  refine JC_seq ?_
  refine JC_region ?_
  refine JL_pd rfl (det_move rfl) ?_
  refine JL_pd rfl (det_move rfl) ?_
  refine JL_pd rfl (det_neq rfl rfl) ?_
  refine JL_pd rfl (det_assign rfl) ?_
  refine JL_nil ?_
  refine JE_seq ?_
  refine JC_ret ?_
  refine JE_out (.inl rfl) () (results1 Tryz.results222 (res_tmp rfl)) ?_ (List.Perm.refl _) (fun _ _ => trivial)
  simp
theorem compare_j (x y : Int) : Cv Tryz.prog 186 [I x, I y] KTrue (I (if x < y then -1 else if y < x then 1 else 0)) := by
  refine Cx_of Tryz.func186 rfl Tryz.ntmps186 rfl fun w0 M0 => ?_
  refine JC_seq ?_
  refine JC_region ?_
  refine JL_pd rfl (det_assign rfl) ?_
  refine JL_nil ?_
  refine JE_seq ?_
  refine JC_seq ?_
  refine JC_region ?_
  refine JL_pd rfl (det_move rfl) ?_
  refine JL_step rfl rfl rfl (jo_callv rfl rfl Tryz.call222 rfl (isNaN_j _)) fun _ => ?_
  refine JL_pd rfl (det_assign rfl) ?_
  refine JL_nil ?_
  refine JE_seq ?_
  refine JC_seq ?_
  refine JC_region ?_
  refine JL_pd rfl (det_move rfl) ?_
  refine JL_step rfl rfl rfl (jo_callv rfl rfl Tryz.call222 rfl (isNaN_j _)) fun _ => ?_
  refine JL_pd rfl (det_assign rfl) ?_
  refine JL_nil ?_
  refine JE_seq ?_
  refine JC_seq ?_
  refine JC_seq ?_
  refine JC_region ?_
  refine JL_pd rfl (det_move rfl) ?_
  refine JL_nil ?_
  refine JE_seq ?_
  -- stop: cond
  refine JC_cond rfl (fun h1 => ?_) (fun h1 => ?_)
  · cases h1
  refine JC_skip ?_
  refine JE_seq ?_
  refine JC_seq ?_
  refine JC_seq ?_
  refine JC_region ?_
  refine JL_pd rfl (det_move rfl) ?_
  refine JL_nil ?_
  refine JE_seq ?_
  -- stop: cond
  refine JC_cond rfl (fun h2 => ?_) (fun h2 => ?_)
  · cases h2
  refine JC_skip ?_
  refine JE_seq ?_
  refine JC_seq ?_
  refine JC_seq ?_
  refine JC_region ?_
  refine JL_pd rfl (det_move rfl) ?_
  refine JL_pd rfl (det_move rfl) ?_
  refine JL_pd rfl (det_lss rfl rfl) ?_
  refine JL_nil ?_
  refine JE_seq ?_
  -- stop: cond
  refine JC_if rfl (fun h3 => ?_) (fun h3 => ?_)
  · refine JC_seq ?_
    refine JC_region ?_
    refine JL_pd rfl (det_assign rfl) ?_
    refine JL_nil ?_
    refine JE_seq ?_
    refine JC_ret ?_
    refine JE_seq_ret ?_
    -- stop: out
    refine JE_out (.inl rfl) () (results1 Tryz.results186 (res_tmp rfl)) (by rw [if_pos h3]) (List.Perm.refl _) (fun _ _ => trivial)
  · refine JC_skip ?_
    refine JE_seq ?_
    refine JC_seq ?_
    refine JC_seq ?_
    refine JC_region ?_
    refine JL_pd rfl (det_move rfl) ?_
    refine JL_pd rfl (det_move rfl) ?_
    refine JL_pd rfl (det_gtr rfl rfl) ?_
    refine JL_nil ?_
    refine JE_seq ?_
    -- stop: cond
    refine JC_if rfl (fun h4 => ?_) (fun h4 => ?_)
    · refine JC_seq ?_
      refine JC_region ?_
      refine JL_pd rfl (det_assign rfl) ?_
      refine JL_nil ?_
      refine JE_seq ?_
      refine JC_ret ?_
      refine JE_seq_ret ?_
      -- stop: out
      refine JE_out (.inl rfl) () (results1 Tryz.results186 (res_tmp rfl)) (by rw [if_neg h3, if_pos h4]) (List.Perm.refl _) (fun _ _ => trivial)
    · refine JC_skip ?_
      refine JE_seq ?_
      refine JC_seq ?_
      refine JC_region ?_
      refine JL_pd rfl (det_assign rfl) ?_
      refine JL_nil ?_
      refine JE_seq ?_
      refine JC_ret ?_
      -- stop: out
      refine JE_out (.inl rfl) () (results1 Tryz.results186 (res_tmp rfl)) (by rw [if_neg h3, if_neg h4]) (List.Perm.refl _) (fun _ _ => trivial)
set_option maxRecDepth 100000 in
theorem compareL_j (a : Option Addr) (c : Nat) (xs : List Int) (b : Option Addr) (d : Nat) (ys : List Int) : Cv Tryz.prog 136 [.slice a xs.length c, .slice b ys.length d] (KAnd (KSl a xs.length c encI xs) (KSl b ys.length d encI ys)) (I (cmpL xs ys)) := by
  refine Cx_of Tryz.func136 rfl Tryz.ntmps136 rfl fun w0 M0 => ?_
  refine JC_seq ?_
  refine JC_region ?_
  refine JL_pd rfl (det_assign rfl) ?_
  refine JL_nil ?_
  refine JE_seq ?_
  refine JC_seq ?_
  refine JC_seq ?_
  refine JC_region ?_
  refine JL_pd rfl (det_move rfl) ?_
  refine JL_pd rfl (det_len rfl Tryz.runUnderlying31) ?_
  refine JL_pd rfl (det_move rfl) ?_
  refine JL_nil ?_
  refine JE_seq ?_
  refine JC_block ?_
  -- stop: loop
  refine JC_pure (p := xs.length ≤ 9223372036854775807) (by intro w h; exact h.1.1.bd) fun hz => ?_
  refine JC_loopF (γ := Nat) (fun i => i ≤ xs.length ∧ i ≤ ys.length ∧ xs.take i = ys.take i) (fun i => [(11, I i)]) (fun _ => []) (fun i => xs.length - i) 0 ⟨Nat.zero_le _, Nat.zero_le _, by simp⟩ (stsub_consI rfl rfl stsub_nil) ht_nil ?_
  rintro i ⟨hi, hi2, h0⟩ K hK
  dsimp only [List.cons_append, List.nil_append]
  refine JC_seq ?_
  refine JC_region ?_
  refine JL_pd rfl (det_lss rfl rfl) ?_
  refine JL_nil ?_
  refine JE_seq ?_
  refine JC_seq ?_
  -- stop: cond
  refine JC_if rfl (fun h1 => ?_) (fun h1 => ?_)
  · have hx : i < xs.length := by omega
    have hdx := List.drop_eq_getElem_cons hx
    refine JC_skip ?_
    refine JE_seq ?_
    refine JC_seq ?_
    refine JC_block ?_
    refine JC_seq ?_
    refine JC_region ?_
    refine JL_pd rfl (det_move rfl) ?_
    refine JL_dt rfl (det_indexAddr rfl rfl (by first | rfl | omega) (by first | assumption | omega | decide) Tryz.runUnderlying31 Tryz.sizeOf3) ?_
    refine JL_dt rfl (det_loadE rfl (by first | assumption | omega | decide) Tryz.isAgg3 rfl rfl) ?_
    refine JL_pd rfl (det_assign rfl) ?_
    refine JL_pd rfl (det_assign rfl) ?_
    refine JL_nil ?_
    refine JE_seq ?_
    refine JC_seq ?_
    refine JC_seq ?_
    refine JC_region ?_
    refine JL_pd rfl (det_move rfl) ?_
    refine JL_pd rfl (det_move rfl) ?_
    refine JL_pd rfl (det_len rfl Tryz.runUnderlying31) ?_
    refine JL_pd rfl (det_geq rfl rfl) ?_
    refine JL_nil ?_
    refine JE_seq ?_
    -- stop: cond
    refine JC_if rfl (fun h2 => ?_) (fun h2 => ?_)
    · have e : i = ys.length := by omega
      refine JC_seq ?_
      refine JC_region ?_
      refine JL_pd rfl (det_assign rfl) ?_
      refine JL_nil ?_
      refine JE_seq ?_
      refine JC_ret ?_
      refine JE_seq_ret ?_
      refine JE_block_ret ?_
      refine JE_seq_ret ?_
      refine JE_then_ret ?_
      refine JE_block_ret ?_
      refine JE_seq_ret ?_
      -- stop: out
      refine JE_out (.inl rfl) () (results1 Tryz.results136 (res_tmp rfl)) (by rw [cmpL_at h0, hdx, show ys.drop i = [] from List.drop_of_length_le (by omega)]; rfl) (List.Perm.refl _) (fun _ _ => trivial)
    · have hy : i < ys.length := by omega
      have hdy := List.drop_eq_getElem_cons hy
      have hc : cmpL xs ys = if xs[i] < ys[i] then -1 else if ys[i] < xs[i] then 1 else cmpL (xs.drop (i + 1)) (ys.drop (i + 1)) := by rw [cmpL_at h0, hdx, hdy]; rfl
      refine JC_skip ?_
      refine JE_seq ?_
      refine JC_seq ?_
      refine JC_region ?_
      refine JL_pd rfl (det_move rfl) ?_
      refine JL_pd rfl (det_move rfl) ?_
      refine JL_dt rfl (det_indexAddr rfl rfl (by first | rfl | omega) (by first | assumption | omega | decide) Tryz.runUnderlying31 Tryz.sizeOf3) ?_
      refine JL_dt rfl (det_loadE rfl (by first | assumption | omega | decide) Tryz.isAgg3 rfl rfl) ?_
      refine JL_pd rfl (det_assign rfl) ?_
      refine JL_nil ?_
      refine JE_seq ?_
      refine JC_seq ?_
      refine JC_region ?_
      refine JL_pd rfl (det_move rfl) ?_
      refine JL_pd rfl (det_move rfl) ?_
      refine JL_step rfl rfl rfl (jo_callv rfl rfl Tryz.call186 rfl (compare_j _ _)) fun _ => ?_
      refine JL_pd rfl (det_assign rfl) ?_
      refine JL_nil ?_
      refine JE_seq ?_
      refine JC_seq ?_
      refine JC_region ?_
      refine JL_pd rfl (det_move rfl) ?_
      refine JL_pd rfl (det_neq rfl rfl) ?_
      refine JL_nil ?_
      refine JE_seq ?_
      -- stop: cond
      refine JC_ifn rfl (fun h3 => ?_) (fun h3 => ?_)
      · refine JC_seq ?_
        refine JC_region ?_
        refine JL_pd rfl (det_move rfl) ?_
        refine JL_pd rfl (det_assign rfl) ?_
        refine JL_nil ?_
        refine JE_seq ?_
        refine JC_ret ?_
        refine JE_block_ret ?_
        refine JE_seq_ret ?_
        refine JE_then_ret ?_
        refine JE_block_ret ?_
        refine JE_seq_ret ?_
        -- stop: out
        refine JE_out (.inl rfl) () (results1 Tryz.results136 (res_tmp rfl)) (by rw [hc]; split; rfl; split; rfl; rename_i h4 h5; rw [if_neg h4, if_neg h5] at h3; exact absurd rfl h3) (List.Perm.refl _) (fun _ _ => trivial)
      · have he : xs[i] = ys[i] := by split at h3; omega; split at h3; omega; omega
        refine JC_skip ?_
        refine JE_block ?_
        refine JE_seq ?_
        refine JC_region ?_
        refine JL_pd rfl (det_add rfl rfl ⟨by omega, by omega⟩) ?_
        refine JL_pd rfl (det_move rfl) ?_
        refine JL_nil ?_
        -- stop: end
        exact JE_roundF hK (i + 1) ⟨by omega, by omega, by rw [take_snoc hx, take_snoc hy, h0, he]⟩ (by omega) (stsub_consI rfl (by omega) stsub_nil) ht_nil
  · obtain rfl : i = xs.length := by omega
    refine JC_exit ?_
    refine JE_seq_exit ?_
    refine JE_then_exit ?_
    refine JE_block_here ?_
    refine JE_seq ?_
    refine JC_seq ?_
    refine JC_seq ?_
    refine JC_region ?_
    refine JL_pd rfl (det_move rfl) ?_
    refine JL_pd rfl (det_len rfl Tryz.runUnderlying31) ?_
    refine JL_pd rfl (det_move rfl) ?_
    refine JL_pd rfl (det_len rfl Tryz.runUnderlying31) ?_
    refine JL_pd rfl (det_lss rfl rfl) ?_
    refine JL_nil ?_
    refine JE_seq ?_
    -- stop: cond
    refine JC_if rfl (fun h2 => ?_) (fun h2 => ?_)
    · have hy : xs.length < ys.length := by omega
      have hdy := List.drop_eq_getElem_cons hy
      refine JC_seq ?_
      refine JC_region ?_
      refine JL_pd rfl (det_assign rfl) ?_
      refine JL_nil ?_
      refine JE_seq ?_
      refine JC_ret ?_
      refine JE_seq_ret ?_
      -- stop: out
      refine JE_out (.inl rfl) () (results1 Tryz.results136 (res_tmp rfl)) (by rw [cmpL_at h0, List.drop_length, hdy]; rfl) (List.Perm.refl _) (fun _ _ => trivial)
    · refine JC_skip ?_
      refine JE_seq ?_
      refine JC_seq ?_
      refine JC_region ?_
      refine JL_pd rfl (det_assign rfl) ?_
      refine JL_nil ?_
      refine JE_seq ?_
      refine JC_ret ?_
      -- stop: out
      refine JE_out (.inl rfl) () (results1 Tryz.results136 (res_tmp rfl)) (by rw [cmpL_at h0, List.drop_length, List.drop_of_length_le (by omega)]; rfl) (List.Perm.refl _) (fun _ _ => trivial)
/-- What is bought. -/
structure Bt where
  list : List Int
  cost : Int
  many : Int
deriving DecidableEq, Inhabited
def befV (x y : Bt) : Int := orL [x.cost - y.cost, x.many - y.many, cmpL x.list y.list]
theorem before_j (x y : Bt) (a b : Option Addr) (c d : Nat) (hx : -1000000 ≤ x.cost ∧ x.cost ≤ 1000000 ∧ -1000000 ≤ x.many ∧ x.many ≤ 1000000) (hy : -1000000 ≤ y.cost ∧ y.cost ≤ 1000000 ∧ -1000000 ≤ y.many ∧ y.many ≤ 1000000) : Cv Tryz.prog 90 [.agg #[.slice a x.list.length c, I x.cost, I x.many], .agg #[.slice b y.list.length d, I y.cost, I y.many]] (KAnd (KSl a x.list.length c encI x.list) (KSl b y.list.length d encI y.list)) (I (befV x y)) := by
  have hor := fun b20 : Nat => or_j (some ⟨b20, 0, none⟩) 3 [x.cost - y.cost, x.many - y.many, cmpL x.list y.list]
  refine Cx_of Tryz.func90 rfl Tryz.ntmps90 rfl fun w0 M0 => ?_
  refine JC_seq ?_
  refine JC_region ?_
  refine JL_step rfl rfl rfl (jo_box rfl rfl) fun b2 => ?_
  refine JL_step rfl rfl rfl (jo_box rfl rfl) fun b3 => ?_
  refine JL_pd rfl (det_assign rfl) ?_
  refine JL_nil ?_
  refine JE_seq ?_
  refine JC_seq ?_
  refine JC_draw [] (by kernel_rfl) ?_
  refine JA_pd (i := 0) rfl (by kernel_rfl) rfl rfl (det_fieldAddr rfl fo_194_1) ?_
  refine JA_dt (i := 1) rfl (by kernel_rfl) (by kernel_rfl) rfl rfl (det_loadK rfl Tryz.isAgg3 rfl) ?_
  refine JA_pd (i := 2) rfl (by kernel_rfl) rfl rfl (det_fieldAddr rfl fo_194_1) ?_
  refine JA_dt (i := 3) rfl (by kernel_rfl) (by kernel_rfl) rfl rfl (det_loadK rfl Tryz.isAgg3 rfl) ?_
  refine JA_pd (i := 4) rfl (by kernel_rfl) rfl rfl (det_sub rfl rfl ⟨by omega, by omega⟩) ?_
  refine JA_pd (i := 5) rfl (by kernel_rfl) rfl rfl (det_fieldAddr rfl fo_194_2) ?_
  refine JA_dt (i := 6) rfl (by kernel_rfl) (by kernel_rfl) rfl rfl (det_loadK rfl Tryz.isAgg3 rfl) ?_
  refine JA_pd (i := 7) rfl (by kernel_rfl) rfl rfl (det_fieldAddr rfl fo_194_2) ?_
  refine JA_dt (i := 8) rfl (by kernel_rfl) (by kernel_rfl) rfl rfl (det_loadK rfl Tryz.isAgg3 rfl) ?_
  refine JA_pd (i := 9) rfl (by kernel_rfl) rfl rfl (det_sub rfl rfl ⟨by omega, by omega⟩) ?_
  refine JA_pd (i := 10) rfl (by kernel_rfl) rfl rfl (det_fieldAddr rfl fo_194_0) ?_
  refine JA_dt (i := 11) rfl (by kernel_rfl) (by kernel_rfl) rfl rfl (det_loadK rfl Tryz.isAgg31 rfl) ?_
  refine JA_pd (i := 12) rfl (by kernel_rfl) rfl rfl (det_fieldAddr rfl fo_194_0) ?_
  refine JA_dt (i := 13) rfl (by kernel_rfl) (by kernel_rfl) rfl rfl (det_loadK rfl Tryz.isAgg31 rfl) ?_
  refine JA_one (i := 14) (by kernel_rfl) rfl rfl (jo_callv rfl rfl Tryz.call136 rfl (compareL_j a c x.list b d y.list)) (fun _ => ⟨hsub_refl, fun _ h => h⟩) fun _ => ?_
  refine JA_one (i := 15) (by kernel_rfl) rfl rfl (jo_buildSlice rfl (bsl_31_3_0_1_2 _ _ _)) (fun _ => ⟨hsub_drop 1 rfl, fun _ h => h⟩) fun b20 => ?_
  refine JA_lit (enc := encI) b20 3 [x.cost - y.cost, x.many - y.many, cmpL x.list y.list] noFp rfl rfl (show 3 ≤ _ by decide) ?_
  refine JA_one (i := 16) (by kernel_rfl) rfl rfl (jo_callv rfl rfl Tryz.call80 rfl (hor b20)) (fun _ => ⟨hsub_refl, fun _ h => h⟩) fun _ => ?_
  refine JA_pd (i := 17) rfl (by kernel_rfl) rfl rfl (det_assign rfl) ?_
  refine JA_done (by kernel_rfl) ?_
  refine JE_seq ?_
  refine JC_ret ?_
  -- stop: out
  refine JE_out (.inl rfl) () (results1 Tryz.results90 (res_tmp rfl)) rfl (List.Perm.refl _) (fun _ _ => trivial)
end Go.Proofs.YthpkgabckklojaaGreat.Bl

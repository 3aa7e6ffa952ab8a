/- Own texts, laid together: B1 B2 B3 L1 L2 L3. Nothing is asked. -/
import Derived.Test.YthpkgabckklojaaH4
import Derived.Test.YthpkgabckklojaaJF
set_option linter.unusedSimpArgs false
set_option linter.unusedVariables false
/- Bill, plain: tariffs, messages, shares. -/
namespace Go.Proofs.Ythpkgabckklojaa.Bl
open Go.RowKit Go.Shelf

structure Am where
  g : Int
  q : Int
  s : Int
deriving DecidableEq, Inhabited
structure Of where
  price : Int
  am : Am
  lo : Int
  hi : Int
  most : Int
deriving DecidableEq, Inhabited
structure Ms where
  no : Int
  coins : Int
  total : Int
deriving DecidableEq, Inhabited
def encI (n : Int) : List Value := [I n]
instance : Rec encI 1 := ⟨fun _ => rfl, by decide⟩
def encO (x : Of) : List Value := [I x.price, I x.am.g, I x.am.q, I x.am.s, I x.lo, I x.hi, I x.most]
instance : Rec encO 7 := ⟨fun _ => rfl, by decide⟩
def encM (x : Ms) : List Value := [I x.no, I x.coins, I x.total]
instance : Rec encM 3 := ⟨fun _ => rfl, by decide⟩
theorem encI_one (y : Int) : (encI y).all (·.oneCell') = true := rfl
theorem encO_one (y : Of) : (encO y).all (·.oneCell') = true := rfl
theorem encM_one (y : Ms) : (encM y).all (·.oneCell') = true := rfl
def inI (n lo hi : Int) : Bool := decide (lo ≤ n ∧ n ≤ hi)
theorem inI_iff {n lo hi : Int} : inI n lo hi = true ↔ lo ≤ n ∧ n ≤ hi := by simp [inI]
def amOk (a : Am) : Bool := inI a.g 0 12 && (inI a.q 0 12 && inI a.s 0 12)
def ofOk (o : Of) : Bool := inI o.price 0 10000 && (amOk o.am && (inI o.lo 0 23 && (inI o.hi 0 23 && (decide (o.lo ≤ o.hi) && inI o.most 0 12))))
def msOk (m : Ms) : Bool := inI m.no 1 60 && (inI m.coins 1 1000 && inI m.total 0 60000)
structure VAm (a : Am) : Prop where
  g0 : 0 ≤ a.g
  g1 : a.g ≤ 12
  q0 : 0 ≤ a.q
  q1 : a.q ≤ 12
  s0 : 0 ≤ a.s
  s1 : a.s ≤ 12
structure VOf (o : Of) : Prop where
  p0 : 0 ≤ o.price
  p1 : o.price ≤ 10000
  am : VAm o.am
  l0 : 0 ≤ o.lo
  lh : o.lo ≤ o.hi
  h1 : o.hi ≤ 23
  m0 : 0 ≤ o.most
  m1 : o.most ≤ 12
structure VMs (m : Ms) : Prop where
  n0 : 1 ≤ m.no
  n1 : m.no ≤ 60
  c0 : 1 ≤ m.coins
  c1 : m.coins ≤ 1000
  t0 : 0 ≤ m.total
  t1 : m.total ≤ 60000
theorem amOk_iff {a : Am} : amOk a = true ↔ VAm a := by
  unfold amOk
  simp only [Bool.and_eq_true, inI_iff]
  exact ⟨fun h => ⟨h.1.1, h.1.2, h.2.1.1, h.2.1.2, h.2.2.1, h.2.2.2⟩, fun h => ⟨⟨h.g0, h.g1⟩, ⟨h.q0, h.q1⟩, h.s0, h.s1⟩⟩
theorem ofOk_iff {o : Of} : ofOk o = true ↔ VOf o := by
  unfold ofOk
  simp only [Bool.and_eq_true, inI_iff, amOk_iff, decide_eq_true_eq]
  exact ⟨fun h => ⟨h.1.1, h.1.2, h.2.1, h.2.2.1.1, h.2.2.2.2.1, h.2.2.2.1.2, h.2.2.2.2.2.1, h.2.2.2.2.2.2⟩, fun h => ⟨⟨h.p0, h.p1⟩, h.am, ⟨h.l0, Int.le_trans h.lh h.h1⟩, ⟨Int.le_trans h.l0 h.lh, h.h1⟩, h.lh, h.m0, h.m1⟩⟩
theorem msOk_iff {m : Ms} : msOk m = true ↔ VMs m := by
  unfold msOk
  simp only [Bool.and_eq_true, inI_iff]
  exact ⟨fun h => ⟨h.1.1, h.1.2, h.2.1.1, h.2.1.2, h.2.2.1, h.2.2.2⟩, fun h => ⟨⟨h.n0, h.n1⟩, ⟨h.c0, h.c1⟩, h.t0, h.t1⟩⟩
/-- The error of a tariff; of one with an amount and an hour. -/
def tarE (l : List Of) : Int := if 6 < l.length then 3 else if l.all ofOk = false then 1 else 0
def askE (l : List Of) (need : Am) (at_ : Int) : Int := if tarE l ≠ 0 then tarE l else if (amOk need && inI at_ 0 23) = false then 2 else 0
theorem tar_of {l : List Of} (h : tarE l = 0) : l.length ≤ 6 ∧ ∀ o ∈ l, VOf o := by
  unfold tarE at h
  split at h
  · omega
  · split at h
    · omega
    · rename_i h1 h2
      exact ⟨by omega, fun o ho => ofOk_iff.1 (List.all_eq_true.1 (by simpa using h2) o ho)⟩
theorem ask_of {l : List Of} {need : Am} {at_ : Int} (h : askE l need at_ = 0) : tarE l = 0 ∧ VAm need ∧ 0 ≤ at_ ∧ at_ ≤ 23 := by
  unfold askE at h
  split at h
  · omega
  · split at h
    · omega
    · rename_i h1 h2
      rw [Bool.not_eq_false, Bool.and_eq_true, amOk_iff, inI_iff] at h2
      exact ⟨by omega, h2.1, h2.2⟩
/-- Shares. -/
def shareE (sum : Int) (ws : List Int) : Int := if 10 < ws.length then 3 else if (inI sum 0 1000000 && ws.all fun n => inI n 0 1000) = false then 2 else if ws.sum = 0 then 7 else 0
def paidV (sum : Int) (ws : List Int) (k : Nat) : Int := (sum * (ws.take k).sum).tdiv ws.sum
def sharesN (sum : Int) (ws : List Int) : Nat → List Int
  | 0 => []
  | n + 1 => sharesN sum ws n ++ [paidV sum ws (n + 1) - paidV sum ws n]
def sharesV (sum : Int) (ws : List Int) : List Int := sharesN sum ws ws.length
theorem sharesN_len (sum : Int) (ws : List Int) : ∀ n, (sharesN sum ws n).length = n
  | 0 => rfl
  | n + 1 => by unfold sharesN; rw [List.length_append, sharesN_len sum ws n]; rfl
structure VSh (sum : Int) (ws : List Int) : Prop where
  n : ws.length ≤ 10
  s0 : 0 ≤ sum
  s1 : sum ≤ 1000000
  w : ∀ x ∈ ws, 0 ≤ x ∧ x ≤ 1000
theorem share_of {sum : Int} {ws : List Int} (h : shareE sum ws = 0) : VSh sum ws ∧ ws.sum ≠ 0 := by
  unfold shareE at h
  split at h
  · omega
  · split at h
    · omega
    · split at h
      · omega
      · rename_i h1 h2 h3
        rw [Bool.not_eq_false, Bool.and_eq_true, inI_iff, List.all_eq_true] at h2
        exact ⟨⟨by omega, h2.1.1, h2.1.2, fun x hx => inI_iff.1 (h2.2 x hx)⟩, h3⟩
theorem take_sum {l : List Int} {i : Nat} (h : i < l.length) : (l.take (i + 1)).sum = (l.take i).sum + l[i] := by
  rw [List.take_succ_eq_append_getElem h, List.sum_append]; simp
theorem sum_bd : ∀ (l : List Int), (∀ x ∈ l, 0 ≤ x ∧ x ≤ 1000) → 0 ≤ l.sum ∧ l.sum ≤ 1000 * l.length
  | [], _ => by simp
  | x :: l, h => by
    have h1 := h x (List.mem_cons_self ..)
    have h2 := sum_bd l fun y hy => h y (List.mem_cons_of_mem _ hy)
    rw [List.sum_cons, List.length_cons]
    omega
theorem take_le : ∀ (l : List Int) (k : Nat), (∀ x ∈ l, 0 ≤ x ∧ x ≤ 1000) → (l.take k).sum ≤ l.sum := fun l k h => by
  have h2 := sum_bd (l.drop k) fun y hy => h y (List.mem_of_mem_drop hy)
  conv => rhs; rw [← List.take_append_drop k l, List.sum_append]
  omega
end Go.Proofs.Ythpkgabckklojaa.Bl

/- Walks of bill: numbers, and what all of a list are; shares. -/
namespace Go.Proofs.Ythpkgabckklojaa.Bl
open Go.RowKit Go.Shelf

theorem take_snoc {α : Type} {l : List α} {i : Nat} (h : i < l.length) : l.take (i + 1) = l.take i ++ [l[i]] := List.take_succ_eq_append_getElem h
theorem within_j (n lo hi : Int) : Cv Try.prog 47 [I n, I lo, I hi] KTrue (.bool (inI n lo hi)) := by
  refine Cx_of Try.func47 rfl Try.ntmps47 rfl fun w0 M0 => ?_
  refine JC_seq ?_
  refine JC_region ?_
  refine JL_pd rfl (det_assign rfl) ?_
  refine JL_nil ?_
  refine JE_seq ?_
  refine JC_seq ?_
  refine JC_region ?_
  refine JL_pd rfl (det_move rfl) ?_
  refine JL_pd rfl (det_move rfl) ?_
  refine JL_pd rfl (det_leq rfl rfl) ?_
  refine JL_pd rfl (det_move rfl) ?_
  refine JL_split (d0 := 10) rfl (fun h1 => ?_) (fun h1 => ?_)
  · refine JL_guard rfl rfl h1 ?_
    refine JL_pd rfl (det_move rfl) ?_
    refine JL_guard rfl rfl h1 ?_
    refine JL_pd rfl (det_move rfl) ?_
    refine JL_guard rfl rfl h1 ?_
    refine JL_pd rfl (det_leq rfl rfl) ?_
    refine JL_pd rfl (det_pick_t rfl h1 rfl) ?_
    refine JL_pd rfl (det_assign rfl) ?_
    refine JL_nil ?_
    refine JE_seq ?_
    refine JC_ret ?_
    refine JE_out (.inl rfl) () (results1 Try.results47 (res_tmp rfl)) ?_ (List.Perm.refl _) (fun _ _ => trivial)
    (simp_all [inI])
    (try omega)
  · refine JL_skip rfl rfl h1 rfl ?_
    refine JL_skip rfl rfl h1 rfl ?_
    refine JL_skip rfl rfl h1 rfl ?_
    refine JL_pd rfl (det_pick_f rfl h1 rfl) ?_
    refine JL_pd rfl (det_assign rfl) ?_
    refine JL_nil ?_
    refine JE_seq ?_
    refine JC_ret ?_
    refine JE_out (.inl rfl) () (results1 Try.results47 (res_tmp rfl)) ?_ (List.Perm.refl _) (fun _ _ => trivial)
    (simp_all [inI])
    (try omega)
theorem few_j (n : Int) : Cv Try.prog 134 [I n] KTrue (.bool (inI n 0 12)) := by
  refine Cx_of Try.func134 rfl Try.ntmps134 rfl fun w0 M0 => ?_
  refine JC_seq ?_
  refine JC_region ?_
  refine JL_pd rfl (det_assign rfl) ?_
  refine JL_nil ?_
  refine JE_seq ?_
  refine JC_seq ?_
  refine JC_region ?_
  refine JL_pd rfl (det_move rfl) ?_
  refine JL_step rfl rfl rfl (jo_callv rfl rfl Try.call47 rfl (within_j _ _ _)) fun _ => ?_
  refine JL_pd rfl (det_assign rfl) ?_
  refine JL_nil ?_
  refine JE_seq ?_
  refine JC_ret ?_
  refine JE_out (.inl rfl) () (results1 Try.results134 (res_tmp rfl)) ?_ (List.Perm.refl _) (fun _ _ => trivial)
  rfl
theorem hour_j (n : Int) : Cv Try.prog 114 [I n] KTrue (.bool (inI n 0 23)) := by
  refine Cx_of Try.func114 rfl Try.ntmps114 rfl fun w0 M0 => ?_
  refine JC_seq ?_
  refine JC_region ?_
  refine JL_pd rfl (det_assign rfl) ?_
  refine JL_nil ?_
  refine JE_seq ?_
  refine JC_seq ?_
  refine JC_region ?_
  refine JL_pd rfl (det_move rfl) ?_
  refine JL_step rfl rfl rfl (jo_callv rfl rfl Try.call47 rfl (within_j _ _ _)) fun _ => ?_
  refine JL_pd rfl (det_assign rfl) ?_
  refine JL_nil ?_
  refine JE_seq ?_
  refine JC_ret ?_
  refine JE_out (.inl rfl) () (results1 Try.results114 (res_tmp rfl)) ?_ (List.Perm.refl _) (fun _ _ => trivial)
  rfl
theorem weight_j (n : Int) : Cv Try.prog 46 [I n] KTrue (.bool (inI n 0 1000)) := by
  refine Cx_of Try.func46 rfl Try.ntmps46 rfl fun w0 M0 => ?_
  refine JC_seq ?_
  refine JC_region ?_
  refine JL_pd rfl (det_assign rfl) ?_
  refine JL_nil ?_
  refine JE_seq ?_
  refine JC_seq ?_
  refine JC_region ?_
  refine JL_pd rfl (det_move rfl) ?_
  refine JL_step rfl rfl rfl (jo_callv rfl rfl Try.call47 rfl (within_j _ _ _)) fun _ => ?_
  refine JL_pd rfl (det_assign rfl) ?_
  refine JL_nil ?_
  refine JE_seq ?_
  refine JC_ret ?_
  refine JE_out (.inl rfl) () (results1 Try.results46 (res_tmp rfl)) ?_ (List.Perm.refl _) (fun _ _ => trivial)
  rfl
set_option maxRecDepth 100000 in
theorem indexFuncI_j (p : Int → Bool) (F : Nat) (fs cs : List Value) (Kf : World → Prop) (eF : ∀ args w, (callFunc F args).run Try.prog w = .ok (.enter F args) w) (hF : ∀ x : Int, Cv Try.prog F (fs ++ [I x] ++ cs) Kf (.bool (p x))) (a : Option Addr) (cap : Nat) (xs : List Int) (hl : xs.length ≤ 9223372036854775807) :
    Cv Try.prog 121 [.slice a xs.length cap, .func (.func F) fs.toArray cs.toArray] (KAnd (KSl a xs.length cap encI xs) Kf) (I (idxOf p xs)) := by
  refine Cx_of Try.func121 rfl Try.ntmps121 rfl fun w0 M0 => ?_
  refine JC_seq ?_
  refine JC_region ?_
  refine JL_pd rfl (det_assign rfl) ?_
  refine JL_nil ?_
  refine JE_seq ?_
  refine JC_seq ?_
  refine JC_seq ?_
  refine JC_region ?_
  refine JL_pd rfl (det_move rfl) ?_
  refine JL_pd rfl (det_len rfl Try.runUnderlying26) ?_
  refine JL_pd rfl (det_move rfl) ?_
  refine JL_nil ?_
  refine JE_seq ?_
  refine JC_block ?_
  -- stop: loop
  refine JC_loopF (γ := Nat) (fun i => i ≤ xs.length ∧ (xs.take i).any p = false) (fun i => [(8, I i)]) (fun _ => []) (fun i => xs.length - i) 0 ⟨Nat.zero_le _, rfl⟩ (stsub_consI rfl rfl stsub_nil) ht_nil ?_
  rintro i ⟨hi, hno⟩ K hK
  dsimp only [List.cons_append, List.nil_append]
  refine JC_seq ?_
  refine JC_region ?_
  refine JL_pd rfl (det_lss rfl rfl) ?_
  refine JL_nil ?_
  refine JE_seq ?_
  refine JC_seq ?_
  -- stop: cond
  refine JC_if rfl (fun h1 => ?_) (fun h1 => ?_)
  · have hi2 : i < xs.length := by omega
    refine JC_skip ?_
    refine JE_seq ?_
    refine JC_seq ?_
    refine JC_block ?_
    refine JC_seq ?_
    refine JC_region ?_
    refine JL_pd rfl (det_move rfl) ?_
    refine JL_pd rfl (det_assign rfl) ?_
    refine JL_nil ?_
    refine JE_seq ?_
    refine JC_seq ?_
    refine JC_region ?_
    refine JL_pd rfl (det_move rfl) ?_
    refine JL_pd rfl (det_move rfl) ?_
    refine JL_pd rfl (det_move rfl) ?_
    refine JL_dt rfl (det_indexAddr rfl rfl (by first | rfl | omega) (by first | assumption | omega | decide) Try.runUnderlying26 Try.sizeOf3) ?_
    refine JL_dt rfl (det_loadE rfl (by first | assumption | omega | decide) Try.isAgg3 rfl rfl) ?_
    -- stop: op  5 t16 := (call (Call (value t11) (t15) (3)))   <0 4>   109
    refine JL_step rfl rfl rfl (jo_callv rfl rfl eF rfl (hF xs[i])) fun _ => ?_
    refine JL_nil ?_
    refine JE_seq ?_
    -- stop: cond
    refine JC_cond rfl (fun h2 => ?_) (fun h2 => ?_)
    · refine JC_seq ?_
      refine JC_region ?_
      refine JL_pd rfl (det_move rfl) ?_
      refine JL_pd rfl (det_assign rfl) ?_
      refine JL_nil ?_
      refine JE_seq ?_
      refine JC_ret ?_
      refine JE_block_ret ?_
      refine JE_seq_ret ?_
      refine JE_then_ret ?_
      refine JE_block_ret ?_
      refine JE_seq_ret ?_
      -- stop: out
      refine JE_out (.inl rfl) () (results1 Try.results121 (res_tmp rfl)) (by rw [idxOf_hit hi2 hno h2]) (List.Perm.refl _) (fun _ _ => trivial)
    · refine JC_skip ?_
      refine JE_block ?_
      refine JE_seq ?_
      refine JC_region ?_
      refine JL_pd rfl (det_add rfl rfl ⟨by omega, by omega⟩) ?_
      refine JL_pd rfl (det_move rfl) ?_
      refine JL_nil ?_
      -- stop: end
      refine JE_roundF hK (i + 1) ⟨by omega, by rw [take_snoc hi2, List.any_append, hno]; simp [h2]⟩ (by omega) (stsub_consI rfl (by omega) stsub_nil) ht_nil
  · refine JC_exit ?_
    refine JE_seq_exit ?_
    refine JE_then_exit ?_
    refine JE_block_here ?_
    refine JE_seq ?_
    refine JC_seq ?_
    refine JC_region ?_
    refine JL_pd rfl (det_assign rfl) ?_
    refine JL_nil ?_
    refine JE_seq ?_
    refine JC_ret ?_
    -- stop: out
    obtain rfl : i = xs.length := by omega
    rw [List.take_length] at hno
    refine JE_out (.inl rfl) () (results1 Try.results121 (res_tmp rfl)) (by rw [idxOf_none hno]) (List.Perm.refl _) (fun _ _ => trivial)
theorem containsFuncI_j (p : Int → Bool) (F : Nat) (fs cs : List Value) (Kf : World → Prop) (eF : ∀ args w, (callFunc F args).run Try.prog w = .ok (.enter F args) w) (hF : ∀ x : Int, Cv Try.prog F (fs ++ [I x] ++ cs) Kf (.bool (p x))) (a : Option Addr) (cap : Nat) (xs : List Int) (hl : xs.length ≤ 9223372036854775807) :
    Cv Try.prog 85 [.slice a xs.length cap, .func (.func F) fs.toArray cs.toArray] (KAnd (KSl a xs.length cap encI xs) Kf) (.bool (xs.any p)) := by
  refine Cx_of Try.func85 rfl Try.ntmps85 rfl fun w0 M0 => ?_
  refine JC_seq ?_
  refine JC_region ?_
  refine JL_pd rfl (det_assign rfl) ?_
  refine JL_nil ?_
  refine JE_seq ?_
  refine JC_seq ?_
  refine JC_region ?_
  refine JL_pd rfl (det_move rfl) ?_
  refine JL_pd rfl (det_move rfl) ?_
  -- stop: op  2 t7 := (call (Call (value f121) (t5 t6) (26 62)))   <0 1>   125
  refine JL_step rfl rfl rfl (jo_callv rfl rfl Try.call121 rfl (indexFuncI_j p F fs cs Kf eF hF a cap xs hl)) fun _ => ?_
  refine JL_pd rfl (det_geq rfl rfl) ?_
  refine JL_pd rfl (det_assign rfl) ?_
  refine JL_nil ?_
  refine JE_seq ?_
  refine JC_ret ?_
  -- stop: out
  refine JE_out (.inl rfl) () (results1 Try.results85 (res_tmp rfl)) (by rw [show decide ((0 : Int) ≤ idxOf p xs) = xs.any p from idxOf_any]) (List.Perm.refl _) (fun _ _ => trivial)
theorem allI_1 (p : Int → Bool) (F : Nat) (fs cs : List Value) (Kf : World → Prop) (eF : ∀ args w, (callFunc F args).run Try.prog w = .ok (.enter F args) w) (hF : ∀ x : Int, Cv Try.prog F (fs ++ [I x] ++ cs) Kf (.bool (p x))) (b : Nat) (x : Int) :
    Cv Try.prog 86 [I x, .pointer (some ⟨b, 0, none⟩)] (KAnd (KBox b [.func (.func F) fs.toArray cs.toArray]) Kf) (.bool (!p x)) := by
  refine Cx_of Try.func86 rfl Try.ntmps86 rfl fun w0 M0 => ?_
  refine JC_seq ?_
  refine JC_region ?_
  refine JL_pd rfl (det_assign rfl) ?_
  refine JL_nil ?_
  refine JE_seq ?_
  refine JC_seq ?_
  refine JC_region ?_
  refine JL_dt rfl (det_loadK rfl Try.isAgg62 rfl) ?_
  refine JL_pd rfl (det_move rfl) ?_
  -- stop: op  2 t6 := (call (Call (value t4) (t5) (3)))   <0 1>   30
  refine JL_step rfl rfl rfl (jo_callv rfl rfl eF rfl (hF x)) fun _ => ?_
  refine JL_pd rfl (det_not rfl) ?_
  refine JL_pd rfl (det_assign rfl) ?_
  refine JL_nil ?_
  refine JE_seq ?_
  refine JC_ret ?_
  -- stop: out
  refine JE_out (.inl rfl) () (results1 Try.results86 (res_tmp rfl)) rfl (List.Perm.refl _) (fun _ _ => trivial)
theorem allI_j (p : Int → Bool) (F : Nat) (fs cs : List Value) (Kf : World → Prop) (eF : ∀ args w, (callFunc F args).run Try.prog w = .ok (.enter F args) w) (hF : ∀ x : Int, Cv Try.prog F (fs ++ [I x] ++ cs) Kf (.bool (p x))) (a : Option Addr) (cap : Nat) (xs : List Int) (hl : xs.length ≤ 9223372036854775807) :
    Cv Try.prog 48 [.slice a xs.length cap, .func (.func F) fs.toArray cs.toArray] (KAnd (KSl a xs.length cap encI xs) Kf) (.bool (xs.all p)) := by
  have hcf := fun b3 : Nat => containsFuncI_j (fun x => !p x) 86 [] [.pointer (some ⟨b3, 0, none⟩)] _ Try.call86 (allI_1 p F fs cs Kf eF hF b3) a cap xs hl
  refine Cx_of Try.func48 rfl Try.ntmps48 rfl fun w0 M0 => ?_
  refine JC_seq ?_
  refine JC_region ?_
  refine JL_step rfl rfl rfl (jo_box rfl rfl) fun b3 => ?_
  refine JL_pd rfl (det_assign rfl) ?_
  refine JL_nil ?_
  refine JE_seq ?_
  refine JC_seq ?_
  refine JC_region ?_
  refine JL_pd rfl (det_move rfl) ?_
  refine JL_pd rfl (det_makeFuncE rfl rfl) ?_
  -- stop: op  2 t7 := (call (Call (value f85) (t5 t6) (26 62)))   <0 1>   30
  refine JL_keep b3 noFp ?_
  refine JL_step rfl rfl rfl (jo_callv rfl rfl Try.call85 rfl (hcf b3)) fun _ => ?_
  refine JL_pd rfl (det_not rfl) ?_
  refine JL_pd rfl (det_assign rfl) ?_
  refine JL_nil ?_
  refine JE_seq ?_
  refine JC_ret ?_
  -- stop: out
  refine JE_out (.inl rfl) () (results1 Try.results48 (res_tmp rfl)) (by simp [List.all_eq_not_any_not]) (List.Perm.refl _) (fun _ _ => trivial)

set_option maxRecDepth 100000 in
theorem indexFuncO_j (p : Of → Bool) (F : Nat) (fs cs : List Value) (Kf : World → Prop) (eF : ∀ args w, (callFunc F args).run Try.prog w = .ok (.enter F args) w) (a : Option Addr) (cap : Nat) (xs : List Of) (hF : ∀ x ∈ xs, Cv Try.prog F (fs ++ [.agg #[I x.price, I x.am.g, I x.am.q, I x.am.s, I x.lo, I x.hi, I x.most]] ++ cs) Kf (.bool (p x))) (hl : xs.length ≤ 9223372036854775807) :
    Cv Try.prog 141 [.slice a xs.length cap, .func (.func F) fs.toArray cs.toArray] (KAnd (KSl a xs.length cap encO xs) Kf) (I (idxOf p xs)) := by
  refine Cx_of Try.func141 rfl Try.ntmps141 rfl fun w0 M0 => ?_
  refine JC_seq ?_
  refine JC_region ?_
  refine JL_pd rfl (det_assign rfl) ?_
  refine JL_nil ?_
  refine JE_seq ?_
  refine JC_seq ?_
  refine JC_seq ?_
  refine JC_region ?_
  refine JL_pd rfl (det_move rfl) ?_
  refine JL_pd rfl (det_len rfl Try.runUnderlying91) ?_
  refine JL_pd rfl (det_move rfl) ?_
  refine JL_nil ?_
  refine JE_seq ?_
  refine JC_block ?_
  -- stop: loop
  refine JC_loopF (γ := Nat) (fun i => i ≤ xs.length ∧ (xs.take i).any p = false) (fun i => [(8, I i)]) (fun _ => []) (fun i => xs.length - i) 0 ⟨Nat.zero_le _, rfl⟩ (stsub_consI rfl rfl stsub_nil) ht_nil ?_
  rintro i ⟨hi, hno⟩ K hK
  dsimp only [List.cons_append, List.nil_append]
  refine JC_seq ?_
  refine JC_region ?_
  refine JL_pd rfl (det_lss rfl rfl) ?_
  refine JL_nil ?_
  refine JE_seq ?_
  refine JC_seq ?_
  -- stop: cond
  refine JC_if rfl (fun h1 => ?_) (fun h1 => ?_)
  · have hi2 : i < xs.length := by omega
    refine JC_skip ?_
    refine JE_seq ?_
    refine JC_seq ?_
    refine JC_block ?_
    refine JC_seq ?_
    refine JC_region ?_
    refine JL_pd rfl (det_move rfl) ?_
    refine JL_pd rfl (det_assign rfl) ?_
    refine JL_nil ?_
    refine JE_seq ?_
    refine JC_seq ?_
    refine JC_region ?_
    refine JL_pd rfl (det_move rfl) ?_
    refine JL_pd rfl (det_move rfl) ?_
    refine JL_pd rfl (det_move rfl) ?_
    refine JL_dt rfl (det_indexAddr rfl rfl (by first | rfl | omega) (by first | assumption | omega | decide) Try.runUnderlying91 Try.sizeOf90) ?_
    refine JL_dt rfl (det_loadEA rfl (by first | assumption | omega | decide) Try.isAgg90 Try.sizeOf90 rfl rfl rfl) ?_
    -- stop: op  5 t16 := (call (Call (value t11) (t15) (90)))   <0 4>   109
    refine JL_step rfl rfl rfl (jo_callv rfl rfl eF rfl (hF xs[i] (List.getElem_mem hi2))) fun _ => ?_
    refine JL_nil ?_
    refine JE_seq ?_
    -- stop: cond
    refine JC_cond rfl (fun h2 => ?_) (fun h2 => ?_)
    · refine JC_seq ?_
      refine JC_region ?_
      refine JL_pd rfl (det_move rfl) ?_
      refine JL_pd rfl (det_assign rfl) ?_
      refine JL_nil ?_
      refine JE_seq ?_
      refine JC_ret ?_
      refine JE_block_ret ?_
      refine JE_seq_ret ?_
      refine JE_then_ret ?_
      refine JE_block_ret ?_
      refine JE_seq_ret ?_
      -- stop: out
      refine JE_out (.inl rfl) () (results1 Try.results141 (res_tmp rfl)) (by rw [idxOf_hit hi2 hno h2]) (List.Perm.refl _) (fun _ _ => trivial)
    · refine JC_skip ?_
      refine JE_block ?_
      refine JE_seq ?_
      refine JC_region ?_
      refine JL_pd rfl (det_add rfl rfl ⟨by omega, by omega⟩) ?_
      refine JL_pd rfl (det_move rfl) ?_
      refine JL_nil ?_
      -- stop: end
      refine JE_roundF hK (i + 1) ⟨by omega, by rw [take_snoc hi2, List.any_append, hno]; simp [h2]⟩ (by omega) (stsub_consI rfl (by omega) stsub_nil) ht_nil
  · refine JC_exit ?_
    refine JE_seq_exit ?_
    refine JE_then_exit ?_
    refine JE_block_here ?_
    refine JE_seq ?_
    refine JC_seq ?_
    refine JC_region ?_
    refine JL_pd rfl (det_assign rfl) ?_
    refine JL_nil ?_
    refine JE_seq ?_
    refine JC_ret ?_
    -- stop: out
    obtain rfl : i = xs.length := by omega
    rw [List.take_length] at hno
    refine JE_out (.inl rfl) () (results1 Try.results141 (res_tmp rfl)) (by rw [idxOf_none hno]) (List.Perm.refl _) (fun _ _ => trivial)
theorem containsFuncO_j (p : Of → Bool) (F : Nat) (fs cs : List Value) (Kf : World → Prop) (eF : ∀ args w, (callFunc F args).run Try.prog w = .ok (.enter F args) w) (a : Option Addr) (cap : Nat) (xs : List Of) (hF : ∀ x ∈ xs, Cv Try.prog F (fs ++ [.agg #[I x.price, I x.am.g, I x.am.q, I x.am.s, I x.lo, I x.hi, I x.most]] ++ cs) Kf (.bool (p x))) (hl : xs.length ≤ 9223372036854775807) :
    Cv Try.prog 138 [.slice a xs.length cap, .func (.func F) fs.toArray cs.toArray] (KAnd (KSl a xs.length cap encO xs) Kf) (.bool (xs.any p)) := by
  refine Cx_of Try.func138 rfl Try.ntmps138 rfl fun w0 M0 => ?_
  refine JC_seq ?_
  refine JC_region ?_
  refine JL_pd rfl (det_assign rfl) ?_
  refine JL_nil ?_
  refine JE_seq ?_
  refine JC_seq ?_
  refine JC_region ?_
  refine JL_pd rfl (det_move rfl) ?_
  refine JL_pd rfl (det_move rfl) ?_
  -- stop: op  2 t7 := (call (Call (value f141) (t5 t6) (91 191)))   <0 1>   125
  refine JL_step rfl rfl rfl (jo_callv rfl rfl Try.call141 rfl (indexFuncO_j p F fs cs Kf eF a cap xs hF hl)) fun _ => ?_
  refine JL_pd rfl (det_geq rfl rfl) ?_
  refine JL_pd rfl (det_assign rfl) ?_
  refine JL_nil ?_
  refine JE_seq ?_
  refine JC_ret ?_
  -- stop: out
  refine JE_out (.inl rfl) () (results1 Try.results138 (res_tmp rfl)) (by rw [show decide ((0 : Int) ≤ idxOf p xs) = xs.any p from idxOf_any]) (List.Perm.refl _) (fun _ _ => trivial)
theorem allO_1 (p : Of → Bool) (F : Nat) (fs cs : List Value) (Kf : World → Prop) (eF : ∀ args w, (callFunc F args).run Try.prog w = .ok (.enter F args) w) (x : Of) (hF : Cv Try.prog F (fs ++ [.agg #[I x.price, I x.am.g, I x.am.q, I x.am.s, I x.lo, I x.hi, I x.most]] ++ cs) Kf (.bool (p x))) (b : Nat) :
    Cv Try.prog 139 [.agg #[I x.price, I x.am.g, I x.am.q, I x.am.s, I x.lo, I x.hi, I x.most], .pointer (some ⟨b, 0, none⟩)] (KAnd (KBox b [.func (.func F) fs.toArray cs.toArray]) Kf) (.bool (!p x)) := by
  refine Cx_of Try.func139 rfl Try.ntmps139 rfl fun w0 M0 => ?_
  refine JC_seq ?_
  refine JC_region ?_
  refine JL_step rfl rfl rfl (jo_box rfl rfl) fun b2 => ?_
  refine JL_pd rfl (det_assign rfl) ?_
  refine JL_nil ?_
  refine JE_seq ?_
  refine JC_seq ?_
  refine JC_region ?_
  refine JL_dt rfl (det_loadK rfl Try.isAgg191 rfl) ?_
  refine JL_dt rfl (det_loadKA rfl Try.isAgg90 Try.sizeOf90 rfl rfl) ?_
  -- stop: op  2 t6 := (call (Call (value t4) (t5) (90)))   <0 1>   30
  refine JL_step rfl rfl rfl (jo_callv rfl rfl eF rfl (hF)) fun _ => ?_
  refine JL_pd rfl (det_not rfl) ?_
  refine JL_pd rfl (det_assign rfl) ?_
  refine JL_nil ?_
  refine JE_seq ?_
  refine JC_ret ?_
  -- stop: out
  refine JE_out (.inl rfl) () (results1 Try.results139 (res_tmp rfl)) rfl (List.Perm.refl _) (fun _ _ => trivial)
theorem allO_j (p : Of → Bool) (F : Nat) (fs cs : List Value) (Kf : World → Prop) (eF : ∀ args w, (callFunc F args).run Try.prog w = .ok (.enter F args) w) (a : Option Addr) (cap : Nat) (xs : List Of) (hF : ∀ x ∈ xs, Cv Try.prog F (fs ++ [.agg #[I x.price, I x.am.g, I x.am.q, I x.am.s, I x.lo, I x.hi, I x.most]] ++ cs) Kf (.bool (p x))) (hl : xs.length ≤ 9223372036854775807) :
    Cv Try.prog 132 [.slice a xs.length cap, .func (.func F) fs.toArray cs.toArray] (KAnd (KSl a xs.length cap encO xs) Kf) (.bool (xs.all p)) := by
  have hcf := fun b3 : Nat => containsFuncO_j (fun x => !p x) 139 [] [.pointer (some ⟨b3, 0, none⟩)] _ Try.call139 a cap xs (fun x hx => allO_1 p F fs cs Kf eF x (hF x hx) b3) hl
  refine Cx_of Try.func132 rfl Try.ntmps132 rfl fun w0 M0 => ?_
  refine JC_seq ?_
  refine JC_region ?_
  refine JL_step rfl rfl rfl (jo_box rfl rfl) fun b3 => ?_
  refine JL_pd rfl (det_assign rfl) ?_
  refine JL_nil ?_
  refine JE_seq ?_
  refine JC_seq ?_
  refine JC_region ?_
  refine JL_pd rfl (det_move rfl) ?_
  refine JL_pd rfl (det_makeFuncE rfl rfl) ?_
  -- stop: op  2 t7 := (call (Call (value f138) (t5 t6) (91 191)))   <0 1>   30
  refine JL_keep b3 noFp ?_
  refine JL_step rfl rfl rfl (jo_callv rfl rfl Try.call138 rfl (hcf b3)) fun _ => ?_
  refine JL_pd rfl (det_not rfl) ?_
  refine JL_pd rfl (det_assign rfl) ?_
  refine JL_nil ?_
  refine JE_seq ?_
  refine JC_ret ?_
  -- stop: out
  refine JE_out (.inl rfl) () (results1 Try.results132 (res_tmp rfl)) (by simp [List.all_eq_not_any_not]) (List.Perm.refl _) (fun _ _ => trivial)
end Go.Proofs.Ythpkgabckklojaa.Bl

/- Walks of bill: Share. -/
namespace Go.Proofs.Ythpkgabckklojaa.Bl
open Go.RowKit Go.Shelf

theorem paid_bd {sum : Int} {ws : List Int} (V : VSh sum ws) (hW : ws.sum ≠ 0) (k : Nat) : 0 ≤ paidV sum ws k ∧ paidV sum ws k ≤ sum ∧ 0 ≤ sum * (ws.take k).sum ∧ sum * (ws.take k).sum ≤ 10000000000 := by
  have h1 := sum_bd ws V.w
  have h2 := sum_bd (ws.take k) fun y hy => V.w y (List.mem_of_mem_take hy)
  have h3 := take_le ws k V.w
  have hn := V.n
  have s0 := V.s0
  have s1 := V.s1
  have hmul : 0 ≤ sum * (ws.take k).sum := Int.mul_nonneg s0 h2.1
  have hle : sum * (ws.take k).sum ≤ sum * ws.sum := Int.mul_le_mul_of_nonneg_left h3 s0
  have hle2 : sum * (ws.take k).sum ≤ 1000000 * 10000 := Int.mul_le_mul s1 (by omega) h2.1 (by omega)
  unfold paidV
  rw [Int.tdiv_eq_ediv_of_nonneg hmul]
  refine ⟨Int.ediv_nonneg hmul h1.1, ?_, hmul, by omega⟩
  have := Int.ediv_le_ediv (a := sum * (ws.take k).sum) (b := sum * ws.sum) (show 0 < ws.sum by omega) hle
  rw [Int.mul_ediv_cancel _ hW] at this
  exact this
theorem Share_je (sum : Int) (a : Option Addr) (c : Nat) (ws : List Int) (h : shareE sum ws ≠ 0) : Cv Try.prog 18 [I sum, .slice a ws.length c] (KSl a ws.length c encI ws) (.tuple #[.slice none 0 0, I (shareE sum ws)]) := by
  refine Cx_of Try.func18 rfl Try.ntmps18 rfl fun w0 M0 => ?_
  refine JC_seq ?_
  refine JC_region ?_
  refine JL_pd rfl (det_assign rfl) ?_
  refine JL_pd rfl (det_assign rfl) ?_
  refine JL_nil ?_
  refine JE_seq ?_
  refine JC_seq ?_
  refine JC_region ?_
  refine JL_pd rfl (det_assign rfl) ?_
  refine JL_nil ?_
  refine JE_seq ?_
  refine JC_seq ?_
  refine JC_region ?_
  refine JL_pd rfl (det_assign rfl) ?_
  refine JL_nil ?_
  refine JE_seq ?_
  refine JC_seq ?_
  refine JC_block ?_
  refine JC_seq ?_
  refine JC_region ?_
  refine JL_pd rfl (det_move rfl) ?_
  refine JL_pd rfl (det_len rfl Try.runUnderlying26) ?_
  refine JL_pd rfl (det_gtr rfl rfl) ?_
  refine JL_pd rfl (det_assign rfl) ?_
  refine JL_nil ?_
  refine JE_seq ?_
  -- stop: cond
  refine JC_pure (p := ws.length ≤ 9223372036854775807) (by intro w h; exact h.1.bd) fun hz => ?_
  have hallj := allI_j (fun n => inI n 0 1000) 46 [] [] KTrue Try.call46 (fun n => weight_j n) a c ws hz
  refine JC_if rfl (fun h1 => ?_) (fun h1 => ?_)
  · refine JC_seq ?_
    refine JC_region ?_
    refine JL_pd rfl (det_assign rfl) ?_
    refine JL_pd rfl (det_assign rfl) ?_
    refine JL_nil ?_
    refine JE_seq ?_
    refine JC_ret ?_
    refine JE_block_ret ?_
    refine JE_seq_ret ?_
    -- stop: out
    refine JE_out (.inl rfl) () (results2 Try.results18 (res_tmp rfl) (res_tmp rfl)) (by unfold shareE; rw [if_pos (by omega)]) (List.Perm.refl _) (fun _ _ => trivial)
  · refine JC_seq ?_
    refine JC_region ?_
    refine JL_pd rfl (det_move rfl) ?_
    refine JL_step rfl rfl rfl (jo_callv rfl rfl Try.call47 rfl (within_j _ _ _)) fun _ => ?_
    refine JL_pd rfl (det_not rfl) ?_
    refine JL_pd rfl (det_move rfl) ?_
    -- stop: guard 3
    refine JL_join1 6 19 (.bool (!inI sum 0 1000000 || !(ws.all fun n => inI n 0 1000))) (fun hj => ?_) ?_
    · refine JL_split (d0 := 23) rfl (fun q1 => ?_) (fun q1 => ?_)
      · refine JL_skip rfl rfl q1 rfl ?_
        refine JL_skip rfl rfl q1 rfl ?_
        refine JL_skip rfl rfl q1 rfl ?_
        refine JL_skip rfl rfl q1 rfl ?_
        refine JL_pd rfl (det_pick_t rfl q1 rfl) ?_
        refine JL_pd rfl (det_assign rfl) ?_
        exact hj (by kernel_rfl) (stsub_consB rfl (by clear hj; first | rfl | (simp only [q1, Bool.and_true, Bool.true_and, Bool.false_and, Bool.and_false, Bool.or_true, Bool.true_or, Bool.or_false, Bool.false_or, Bool.not_true, Bool.not_false]; done) | (simp [q1]; done) | (simp at q1; done) | (simp [q1] <;> omega) | (exfalso; simp at q1; omega)) stsub_nil)
      · refine JL_guard rfl rfl q1 ?_
        refine JL_pd rfl (det_move rfl) ?_
        refine JL_guard rfl rfl q1 ?_
        refine JL_pd rfl (det_move rfl) ?_
        refine JL_guard rfl rfl q1 ?_
        refine JL_step rfl rfl rfl (jo_callv rfl rfl Try.call48 rfl (hallj)) fun _ => ?_
        refine JL_guard rfl rfl q1 ?_
        refine JL_pd rfl (det_not rfl) ?_
        refine JL_pd rfl (det_pick_f rfl q1 rfl) ?_
        refine JL_pd rfl (det_assign rfl) ?_
        exact hj (by kernel_rfl) (stsub_consB rfl (by clear hj; first | rfl | (simp only [q1, Bool.and_true, Bool.true_and, Bool.false_and, Bool.and_false, Bool.or_true, Bool.true_or, Bool.or_false, Bool.false_or, Bool.not_true, Bool.not_false]; done) | (simp [q1]; done) | (simp at q1; done) | (simp [q1] <;> omega) | (exfalso; simp at q1; omega)) stsub_nil)
    refine JL_nil ?_
    refine JE_seq ?_
    -- stop: cond
    refine JC_cond rfl (fun h2 => ?_) (fun h2 => ?_)
    · refine JC_seq ?_
      refine JC_region ?_
      refine JL_pd rfl (det_assign rfl) ?_
      refine JL_pd rfl (det_assign rfl) ?_
      refine JL_nil ?_
      refine JE_seq ?_
      refine JC_ret ?_
      refine JE_block_ret ?_
      refine JE_seq_ret ?_
      -- stop: out
      refine JE_out (.inl rfl) () (results2 Try.results18 (res_tmp rfl) (res_tmp rfl)) (by unfold shareE; rw [if_neg (by omega), if_pos (by revert h2; cases inI sum 0 1000000 <;> cases (ws.all fun n => inI n 0 1000) <;> simp)]) (List.Perm.refl _) (fun _ _ => trivial)
    · have hc : (inI sum 0 1000000 && ws.all fun n => inI n 0 1000) = true := by revert h2; cases inI sum 0 1000000 <;> cases (ws.all fun n => inI n 0 1000) <;> simp
      have hw : ∀ x ∈ ws, 0 ≤ x ∧ x ≤ 1000 := fun x hx => by rw [Bool.and_eq_true, List.all_eq_true] at hc; exact inI_iff.1 (hc.2 x hx)
      refine JC_skip ?_
      refine JE_block ?_
      refine JE_seq ?_
      refine JC_seq ?_
      refine JC_seq ?_
      refine JC_region ?_
      refine JL_pd rfl (det_move rfl) ?_
      refine JL_pd rfl (det_len rfl Try.runUnderlying26) ?_
      refine JL_pd rfl (det_move rfl) ?_
      refine JL_nil ?_
      refine JE_seq ?_
      refine JC_block ?_
      -- stop: loop
      refine JC_loopF (γ := Nat) (fun i => i ≤ ws.length) (fun i => [(31, I i), (7, I (ws.take i).sum)]) (fun _ => []) (fun i => ws.length - i) 0 (Nat.zero_le _) (stsub_consI rfl rfl (stsub_consI rfl (by rw [List.take_zero]; rfl) stsub_nil)) ht_nil ?_
      intro i hi K hK
      dsimp only [List.cons_append, List.nil_append]
      have hbd := sum_bd (ws.take i) fun y hy => hw y (List.mem_of_mem_take hy)
      rw [List.length_take] at hbd
      refine JC_seq ?_
      refine JC_region ?_
      refine JL_pd rfl (det_lss rfl rfl) ?_
      refine JL_nil ?_
      refine JE_seq ?_
      refine JC_seq ?_
      -- stop: cond
      refine JC_if rfl (fun h3 => ?_) (fun h3 => ?_)
      · have hi2 : i < ws.length := by omega
        have hts := take_sum hi2
        have hwi := hw _ (List.getElem_mem hi2)
        refine JC_skip ?_
        refine JE_seq ?_
        refine JC_seq ?_
        refine JC_block ?_
        refine JC_seq ?_
        refine JC_region ?_
        refine JL_dt rfl (det_indexAddr rfl rfl (by first | rfl | omega) (by first | assumption | omega | decide) Try.runUnderlying26 Try.sizeOf3) ?_
        refine JL_dt rfl (det_loadE rfl (by first | assumption | omega | decide) Try.isAgg3 rfl rfl) ?_
        refine JL_pd rfl (det_assign rfl) ?_
        refine JL_nil ?_
        refine JE_seq ?_
        refine JC_region ?_
        refine JL_pd rfl (det_move rfl) ?_
        refine JL_pd rfl (det_move rfl) ?_
        refine JL_pd rfl (det_add rfl rfl ⟨by omega, by omega⟩) ?_
        refine JL_pd rfl (det_assign rfl) ?_
        refine JL_nil ?_
        refine JE_block ?_
        refine JE_seq ?_
        refine JC_region ?_
        refine JL_pd rfl (det_add rfl rfl ⟨by omega, by omega⟩) ?_
        refine JL_pd rfl (det_move rfl) ?_
        refine JL_nil ?_
        -- stop: end
        exact JE_roundF hK (i + 1) (by omega) (by omega) (stsub_consI rfl (by omega) (stsub_consI rfl (by omega) stsub_nil)) ht_nil
      · obtain rfl : i = ws.length := by omega
        rw [List.take_length]
        refine JC_exit ?_
        refine JE_seq_exit ?_
        refine JE_then_exit ?_
        refine JE_block_here ?_
        refine JE_seq ?_
        refine JC_seq ?_
        refine JC_seq ?_
        refine JC_region ?_
        refine JL_pd rfl (det_move rfl) ?_
        refine JL_pd rfl (det_eql rfl rfl) ?_
        refine JL_nil ?_
        refine JE_seq ?_
        -- stop: cond
        refine JC_if rfl (fun h4 => ?_) (fun h4 => ?_)
        · refine JC_seq ?_
          refine JC_region ?_
          refine JL_pd rfl (det_assign rfl) ?_
          refine JL_pd rfl (det_assign rfl) ?_
          refine JL_nil ?_
          refine JE_seq ?_
          refine JC_ret ?_
          refine JE_seq_ret ?_
          -- stop: out
          refine JE_out (.inl rfl) () (results2 Try.results18 (res_tmp rfl) (res_tmp rfl)) (by unfold shareE; rw [if_neg (by omega), if_neg (by rw [hc]; decide), if_pos h4]) (List.Perm.refl _) (fun _ _ => trivial)
        · exact absurd (by unfold shareE; rw [if_neg (by omega), if_neg (by rw [hc]; decide), if_neg h4]) h
theorem Share_jo (sum : Int) (a : Option Addr) (c : Nat) (ws : List Int) (h : shareE sum ws = 0) : Cr Try.prog 18 [I sum, .slice a ws.length c] (KSl a ws.length c encI ws) (fun q : Option Addr × Nat => .tuple #[.slice q.1 ws.length q.2, I 0]) (fun q => KSl q.1 ws.length q.2 encI (sharesV sum ws)) := by
  obtain ⟨V, hW⟩ := share_of h
  have hn := V.n
  have hw := V.w
  have hall : (ws.all fun n => inI n 0 1000) = true := List.all_eq_true.2 fun x hx => inI_iff.2 (hw x hx)
  have hsi : inI sum 0 1000000 = true := inI_iff.2 ⟨V.s0, V.s1⟩
  have hwj := within_j sum 0 1000000
  rw [hsi] at hwj
  refine Cx_of Try.func18 rfl Try.ntmps18 rfl fun w0 M0 => ?_
  refine JC_seq ?_
  refine JC_region ?_
  refine JL_pd rfl (det_assign rfl) ?_
  refine JL_pd rfl (det_assign rfl) ?_
  refine JL_nil ?_
  refine JE_seq ?_
  refine JC_seq ?_
  refine JC_region ?_
  refine JL_pd rfl (det_assign rfl) ?_
  refine JL_nil ?_
  refine JE_seq ?_
  refine JC_seq ?_
  refine JC_region ?_
  refine JL_pd rfl (det_assign rfl) ?_
  refine JL_nil ?_
  refine JE_seq ?_
  refine JC_seq ?_
  refine JC_block ?_
  refine JC_seq ?_
  refine JC_region ?_
  refine JL_pd rfl (det_move rfl) ?_
  refine JL_pd rfl (det_len rfl Try.runUnderlying26) ?_
  refine JL_pd rfl (det_gtr rfl rfl) ?_
  refine JL_pd rfl (det_assign rfl) ?_
  refine JL_nil ?_
  refine JE_seq ?_
  -- stop: cond
  have hallj := allI_j (fun n => inI n 0 1000) 46 [] [] KTrue Try.call46 (fun n => weight_j n) a c ws (by omega)
  rw [hall] at hallj
  refine JC_if rfl (fun h1 => ?_) (fun h1 => ?_)
  · exact absurd h1 (by omega)
  refine JC_seq ?_
  refine JC_region ?_
  refine JL_pd rfl (det_move rfl) ?_
  refine JL_step rfl rfl rfl (jo_callv rfl rfl Try.call47 rfl (hwj)) fun _ => ?_
  refine JL_pd rfl (det_not rfl) ?_
  refine JL_pd rfl (det_move rfl) ?_
  -- stop: guard 3
  refine JL_join1 6 19 (.bool false) (fun hj => ?_) ?_
  · refine JL_split (d0 := 23) rfl (fun q2 => ?_) (fun q2 => ?_)
    · refine JL_skip rfl rfl q2 rfl ?_
      refine JL_skip rfl rfl q2 rfl ?_
      refine JL_skip rfl rfl q2 rfl ?_
      refine JL_skip rfl rfl q2 rfl ?_
      refine JL_pd rfl (det_pick_t rfl q2 rfl) ?_
      refine JL_pd rfl (det_assign rfl) ?_
      exact hj (by kernel_rfl) (stsub_consB rfl (by clear hj; first | rfl | (simp only [q2, Bool.and_true, Bool.true_and, Bool.false_and, Bool.and_false, Bool.or_true, Bool.true_or, Bool.or_false, Bool.false_or, Bool.not_true, Bool.not_false]; done) | (simp [q2]; done) | (simp at q2; done) | (simp [q2] <;> omega) | (exfalso; simp at q2; omega)) stsub_nil)
    · refine JL_guard rfl rfl q2 ?_
      refine JL_pd rfl (det_move rfl) ?_
      refine JL_guard rfl rfl q2 ?_
      refine JL_pd rfl (det_move rfl) ?_
      refine JL_guard rfl rfl q2 ?_
      refine JL_step rfl rfl rfl (jo_callv rfl rfl Try.call48 rfl (hallj)) fun _ => ?_
      refine JL_guard rfl rfl q2 ?_
      refine JL_pd rfl (det_not rfl) ?_
      refine JL_pd rfl (det_pick_f rfl q2 rfl) ?_
      refine JL_pd rfl (det_assign rfl) ?_
      exact hj (by kernel_rfl) (stsub_consB rfl (by clear hj; first | rfl | (simp only [q2, Bool.and_true, Bool.true_and, Bool.false_and, Bool.and_false, Bool.or_true, Bool.true_or, Bool.or_false, Bool.false_or, Bool.not_true, Bool.not_false]; done) | (simp [q2]; done) | (simp at q2; done) | (simp [q2] <;> omega) | (exfalso; simp at q2; omega)) stsub_nil)
  refine JL_nil ?_
  refine JE_seq ?_
  refine JC_condF rfl rfl ?_
  refine JC_skip ?_
  refine JE_block ?_
  refine JE_seq ?_
  refine JC_seq ?_
  refine JC_seq ?_
  refine JC_region ?_
  refine JL_pd rfl (det_move rfl) ?_
  refine JL_pd rfl (det_len rfl Try.runUnderlying26) ?_
  refine JL_pd rfl (det_move rfl) ?_
  refine JL_nil ?_
  refine JE_seq ?_
  refine JC_block ?_
  -- stop: loop
  refine JC_loopF (γ := Nat) (fun i => i ≤ ws.length) (fun i => [(31, I i), (7, I (ws.take i).sum)]) (fun _ => []) (fun i => ws.length - i) 0 (Nat.zero_le _) (stsub_consI rfl rfl (stsub_consI rfl (by rw [List.take_zero]; rfl) stsub_nil)) ht_nil ?_
  intro i hi K hK
  dsimp only [List.cons_append, List.nil_append]
  have hbd := sum_bd (ws.take i) fun y hy => hw y (List.mem_of_mem_take hy)
  rw [List.length_take] at hbd
  refine JC_seq ?_
  refine JC_region ?_
  refine JL_pd rfl (det_lss rfl rfl) ?_
  refine JL_nil ?_
  refine JE_seq ?_
  refine JC_seq ?_
  -- stop: cond
  refine JC_if rfl (fun h3 => ?_) (fun h3 => ?_)
  · have hi2 : i < ws.length := by omega
    have hts := take_sum hi2
    have hwi := hw _ (List.getElem_mem hi2)
    refine JC_skip ?_
    refine JE_seq ?_
    refine JC_seq ?_
    refine JC_block ?_
    refine JC_seq ?_
    refine JC_region ?_
    refine JL_dt rfl (det_indexAddr rfl rfl (by first | rfl | omega) (by first | assumption | omega | decide) Try.runUnderlying26 Try.sizeOf3) ?_
    refine JL_dt rfl (det_loadE rfl (by first | assumption | omega | decide) Try.isAgg3 rfl rfl) ?_
    refine JL_pd rfl (det_assign rfl) ?_
    refine JL_nil ?_
    refine JE_seq ?_
    refine JC_region ?_
    refine JL_pd rfl (det_move rfl) ?_
    refine JL_pd rfl (det_move rfl) ?_
    refine JL_pd rfl (det_add rfl rfl ⟨by omega, by omega⟩) ?_
    refine JL_pd rfl (det_assign rfl) ?_
    refine JL_nil ?_
    refine JE_block ?_
    refine JE_seq ?_
    refine JC_region ?_
    refine JL_pd rfl (det_add rfl rfl ⟨by omega, by omega⟩) ?_
    refine JL_pd rfl (det_move rfl) ?_
    refine JL_nil ?_
    -- stop: end
    exact JE_roundF hK (i + 1) (by omega) (by omega) (stsub_consI rfl (by omega) (stsub_consI rfl (by omega) stsub_nil)) ht_nil
  · obtain rfl : i = ws.length := by omega
    rw [List.take_length]
    refine JC_exit ?_
    refine JE_seq_exit ?_
    refine JE_then_exit ?_
    refine JE_block_here ?_
    refine JE_seq ?_
    refine JC_seq ?_
    refine JC_seq ?_
    refine JC_region ?_
    refine JL_pd rfl (det_move rfl) ?_
    refine JL_pd rfl (det_eql rfl rfl) ?_
    refine JL_nil ?_
    refine JE_seq ?_
    -- stop: cond
    refine JC_if rfl (fun h4 => ?_) (fun h4 => ?_)
    · exact absurd h4 hW
    refine JC_skip ?_
    refine JE_seq ?_
    refine JC_seq ?_
    refine JC_region ?_
    refine JL_pd rfl (det_assign rfl) ?_
    refine JL_nil ?_
    refine JE_seq ?_
    refine JC_seq ?_
    refine JC_region ?_
    refine JL_pd rfl (det_assign rfl) ?_
    refine JL_pd rfl (det_assign rfl) ?_
    refine JL_nil ?_
    refine JE_seq ?_
    refine JC_seq ?_
    refine JC_seq ?_
    refine JC_region ?_
    refine JL_pd rfl (det_move rfl) ?_
    refine JL_pd rfl (det_len rfl Try.runUnderlying26) ?_
    refine JL_pd rfl (det_move rfl) ?_
    refine JL_nil ?_
    refine JE_seq ?_
    refine JC_block ?_
    -- stop: loop
    refine JC_nil 3 1 ?_
    refine JC_loopF (γ := Nat × Value) (fun q => q.1 ≤ ws.length) (fun q => [(43, I q.1), (10, q.2), (11, I (ws.take q.1).sum), (12, I (paidV sum ws q.1))]) (fun q => [ow q.2 3 1 q.1 ((sharesN sum ws q.1).flatMap encI)]) (fun q => ws.length - q.1) (0, .slice none 0 0) (Nat.zero_le _) (stsub_consI rfl rfl (stsub_cons rfl (stsub_consI rfl (by rw [List.take_zero]; rfl) (stsub_consI rfl (by unfold paidV; simp) stsub_nil)))) (ht_ow rfl rfl ht_nil) ?_
    rintro ⟨i, v⟩ hi K hK
    dsimp only [List.cons_append, List.nil_append] at hi ⊢
    have hbd := sum_bd (ws.take i) fun y hy => hw y (List.mem_of_mem_take hy)
    rw [List.length_take] at hbd
    refine JC_seq ?_
    refine JC_region ?_
    refine JL_pd rfl (det_lss rfl rfl) ?_
    refine JL_nil ?_
    refine JE_seq ?_
    refine JC_seq ?_
    -- stop: cond
    refine JC_if rfl (fun h5 => ?_) (fun h5 => ?_)
    · have hi2 : i < ws.length := by omega
      have hts := take_sum hi2
      have hwi := hw _ (List.getElem_mem hi2)
      obtain ⟨p1, p2, p3, p4⟩ := paid_bd V hW i
      obtain ⟨q1, q2, q3, q4⟩ := paid_bd V hW (i + 1)
      have hp : (sum * ((ws.take i).sum + ws[i])).tdiv ws.sum = paidV sum ws (i + 1) := by unfold paidV; rw [hts]
      have s1 := V.s1
      rw [← hp] at q1 q2
      rw [hts] at q3 q4
      have hsn : sharesN sum ws (i + 1) = sharesN sum ws i ++ [paidV sum ws (i + 1) - paidV sum ws i] := rfl
      rw [← hp] at hsn
      refine JC_skip ?_
      refine JE_seq ?_
      refine JC_seq ?_
      refine JC_block ?_
      refine JC_seq ?_
      refine JC_region ?_
      refine JL_dt rfl (det_indexAddr rfl rfl (by first | rfl | omega) (by first | assumption | omega | decide) Try.runUnderlying26 Try.sizeOf3) ?_
      refine JL_dt rfl (det_loadE rfl (by first | assumption | omega | decide) Try.isAgg3 rfl rfl) ?_
      refine JL_pd rfl (det_assign rfl) ?_
      refine JL_nil ?_
      refine JE_seq ?_
      refine JC_seq ?_
      refine JC_region ?_
      refine JL_pd rfl (det_move rfl) ?_
      refine JL_pd rfl (det_move rfl) ?_
      refine JL_pd rfl (det_add rfl rfl ⟨by omega, by omega⟩) ?_
      refine JL_pd rfl (det_assign rfl) ?_
      refine JL_nil ?_
      refine JE_seq ?_
      refine JC_seq ?_
      refine JC_region ?_
      refine JL_pd rfl (det_move rfl) ?_
      refine JL_pd rfl (det_move rfl) ?_
      refine JL_pd rfl (det_move rfl) ?_
      refine JL_pd rfl (det_mul rfl rfl ⟨by omega, by omega⟩) ?_
      refine JL_pd rfl (det_move rfl) ?_
      refine JL_pd rfl (det_quo rfl rfl (by omega) ⟨by omega, by omega⟩) ?_
      refine JL_pd rfl (det_move rfl) ?_
      refine JL_pd rfl (det_sub rfl rfl ⟨by omega, by omega⟩) ?_
      refine JL_step rfl rfl rfl (jo_buildSlice rfl (bsl_26_1_0 _)) fun b58 => ?_
      refine JL_step rfl rfl rfl (jo_append el_26 rfl rfl rfl rfl (by omega)) fun b59 => ?_
      refine JL_pd rfl (det_assign rfl) ?_
      refine JL_nil ?_
      refine JE_seq ?_
      refine JC_region ?_
      refine JL_pd rfl (det_move rfl) ?_
      refine JL_pd rfl (det_move rfl) ?_
      refine JL_pd rfl (det_mul rfl rfl ⟨by omega, by omega⟩) ?_
      refine JL_pd rfl (det_move rfl) ?_
      refine JL_pd rfl (det_quo rfl rfl (by omega) ⟨by omega, by omega⟩) ?_
      refine JL_pd rfl (det_assign rfl) ?_
      refine JL_nil ?_
      refine JE_block ?_
      refine JE_seq ?_
      refine JC_region ?_
      refine JL_pd rfl (det_add rfl rfl ⟨by omega, by omega⟩) ?_
      refine JL_pd rfl (det_move rfl) ?_
      refine JL_nil ?_
      -- stop: end
      exact JE_roundF hK (i + 1, .slice (some ⟨b59.1, 0, none⟩) (i + 1) b59.2) (by simp only; omega) (by simp only; omega) (stsub_consI rfl (by simp only; omega) (stsub_cons rfl (stsub_consI rfl (by simp only; omega) (stsub_consI rfl (by simp only; omega) stsub_nil)))) (ht_ow rfl (by rw [hsn, List.flatMap_append]; rfl) ht_nil)
    · obtain rfl : i = ws.length := by omega
      refine JC_slice (enc := encI) (v := v) (sharesN sum ws ws.length) noFp rfl (sharesN_len ..).symm ?_
      rintro av cv rfl
      refine JC_exit ?_
      refine JE_seq_exit ?_
      refine JE_then_exit ?_
      refine JE_block_here ?_
      refine JE_seq ?_
      refine JC_seq ?_
      refine JC_region ?_
      refine JL_pd rfl (det_move rfl) ?_
      refine JL_pd rfl (det_assign rfl) ?_
      refine JL_pd rfl (det_assign rfl) ?_
      refine JL_nil ?_
      refine JE_seq ?_
      refine JC_ret ?_
      -- stop: out
      refine JE_out (.inl rfl) (av, cv) (results2 Try.results18 (res_tmp rfl) (res_tmp rfl)) rfl (List.Perm.refl _) (fun w h => h.1)
end Go.Proofs.Ythpkgabckklojaa.Bl

/- League: games, points; the small functions. -/
namespace Go.Proofs.Ythpkgabckklojaa.Bl
open Go.RowKit Go.Shelf

structure Gm where
  a : Int
  b : Int
  pa : Int
  pb : Int
  op : Bool
deriving DecidableEq, Inhabited
def encG (x : Gm) : List Value := [I x.a, I x.b, I x.pa, I x.pb, .bool x.op]
instance : Rec encG 5 := ⟨fun _ => rfl, by decide⟩
theorem encG_one (y : Gm) : (encG y).all (·.oneCell') = true := rfl
def gmOk (n : Int) (g : Gm) : Bool := inI g.a 0 (n - 1) && (inI g.b 0 (n - 1) && (!decide (g.a = g.b) && ((inI g.pa 0 3000 && inI g.pb 0 3000) && (!g.op || (decide (g.pa = 0) && decide (g.pb = 0))))))
def lgE (n : Int) (l : List Gm) : Int := if 20 < l.length then 3 else if (inI n 2 6 && l.all (gmOk n)) = false then 1 else 0
def gv1 (g : Gm) : Int := if g.op = true then 0 else if g.pb < g.pa then 2 else if g.pa < g.pb then 0 else 1
def gv2 (g : Gm) : Int := if g.op = true then 0 else if g.pb < g.pa then 0 else if g.pa < g.pb then 2 else 1
structure VGm (n : Int) (g : Gm) : Prop where
  a0 : 0 ≤ g.a
  a1 : g.a < n
  b0 : 0 ≤ g.b
  b1 : g.b < n
  ne : g.a ≠ g.b
  p0 : 0 ≤ g.pa
  p1 : g.pa ≤ 3000
  q0 : 0 ≤ g.pb
  q1 : g.pb ≤ 3000
  o1 : g.op = true → g.pa = 0 ∧ g.pb = 0
theorem gmOk_iff {n : Int} {g : Gm} : gmOk n g = true ↔ VGm n g := by
  unfold gmOk
  simp only [Bool.and_eq_true, Bool.or_eq_true, inI_iff, decide_eq_true_eq, Bool.not_eq_true', decide_eq_false_iff_not]
  constructor
  · intro h
    refine ⟨h.1.1, by omega, h.2.1.1, by omega, h.2.2.1, h.2.2.2.1.1.1, h.2.2.2.1.1.2, h.2.2.2.1.2.1, h.2.2.2.1.2.2, fun ho => ?_⟩
    rcases h.2.2.2.2 with h5 | h5
    · rw [h5] at ho; cases ho
    · exact h5
  · intro h
    refine ⟨⟨h.a0, by have := h.a1; omega⟩, ⟨h.b0, by have := h.b1; omega⟩, h.ne, ⟨⟨h.p0, h.p1⟩, h.q0, h.q1⟩, ?_⟩
    cases ho : g.op
    · exact Or.inl rfl
    · exact Or.inr (h.o1 ho)
structure VL (n : Int) (l : List Gm) : Prop where
  l1 : l.length ≤ 20
  n0 : 2 ≤ n
  n1 : n ≤ 6
  g : ∀ x ∈ l, VGm n x
theorem lg_of {n : Int} {l : List Gm} (h : lgE n l = 0) : VL n l := by
  unfold lgE at h
  split at h
  · omega
  · split at h
    · omega
    · rename_i h1 h2
      rw [Bool.not_eq_false, Bool.and_eq_true, List.all_eq_true] at h2
      have := inI_iff.1 h2.1
      exact ⟨by omega, this.1, this.2, fun x hx => gmOk_iff.1 (h2.2 x hx)⟩
theorem of_lg {n : Int} {l : List Gm} (h : VL n l) : lgE n l = 0 := by
  unfold lgE
  have := h.l1
  rw [if_neg (by omega), if_neg (by rw [inI_iff.2 ⟨h.n0, h.n1⟩, List.all_eq_true.2 fun x hx => gmOk_iff.2 (h.g x hx)]; decide)]
theorem gwithin_j (n lo hi : Int) : Cv Try.prog 51 [I n, I lo, I hi] KTrue (.bool (inI n lo hi)) := by
  refine Cx_of Try.func51 rfl Try.ntmps51 rfl fun w0 M0 => ?_
  refine JC_seq ?_
  refine JC_region ?_
  refine JL_pd rfl (det_assign rfl) ?_
  refine JL_nil ?_
  refine JE_seq ?_
  refine JC_seq ?_
  refine JC_region ?_
  refine JL_pd rfl (det_move rfl) ?_
  refine JL_pd rfl (det_move rfl) ?_
  refine JL_pd rfl (det_leq rfl rfl) ?_
  refine JL_pd rfl (det_move rfl) ?_
  refine JL_split (d0 := 10) rfl (fun h1 => ?_) (fun h1 => ?_)
  · refine JL_guard rfl rfl h1 ?_
    refine JL_pd rfl (det_move rfl) ?_
    refine JL_guard rfl rfl h1 ?_
    refine JL_pd rfl (det_move rfl) ?_
    refine JL_guard rfl rfl h1 ?_
    refine JL_pd rfl (det_leq rfl rfl) ?_
    refine JL_pd rfl (det_pick_t rfl h1 rfl) ?_
    refine JL_pd rfl (det_assign rfl) ?_
    refine JL_nil ?_
    refine JE_seq ?_
    refine JC_ret ?_
    refine JE_out (.inl rfl) () (results1 Try.results51 (res_tmp rfl)) ?_ (List.Perm.refl _) (fun _ _ => trivial)
    (simp_all [inI])
    (try omega)
  · refine JL_skip rfl rfl h1 rfl ?_
    refine JL_skip rfl rfl h1 rfl ?_
    refine JL_skip rfl rfl h1 rfl ?_
    refine JL_pd rfl (det_pick_f rfl h1 rfl) ?_
    refine JL_pd rfl (det_assign rfl) ?_
    refine JL_nil ?_
    refine JE_seq ?_
    refine JC_ret ?_
    refine JE_out (.inl rfl) () (results1 Try.results51 (res_tmp rfl)) ?_ (List.Perm.refl _) (fun _ _ => trivial)
    (simp_all [inI])
    (try omega)
theorem teams_j (n : Int) : Cv Try.prog 20 [I n] KTrue (.bool (inI n 2 6)) := by
  refine Cx_of Try.func20 rfl Try.ntmps20 rfl fun w0 M0 => ?_
  refine JC_seq ?_
  refine JC_region ?_
  refine JL_pd rfl (det_assign rfl) ?_
  refine JL_nil ?_
  refine JE_seq ?_
  refine JC_seq ?_
  refine JC_region ?_
  refine JL_pd rfl (det_move rfl) ?_
  refine JL_step rfl rfl rfl (jo_callv rfl rfl Try.call51 rfl (gwithin_j _ _ _)) fun _ => ?_
  refine JL_pd rfl (det_assign rfl) ?_
  refine JL_nil ?_
  refine JE_seq ?_
  refine JC_ret ?_
  refine JE_out (.inl rfl) () (results1 Try.results20 (res_tmp rfl)) ?_ (List.Perm.refl _) (fun _ _ => trivial)
  rfl
theorem team_j (n : Int) (a : Option Addr) (m c : Nat) (x : Int) (h0 : -100 ≤ n ∧ n ≤ 100) : Cv Try.prog 87 [.agg #[I n, .slice a m c], I x] KTrue (.bool (inI x 0 (n - 1))) := by
  refine Cx_of Try.func87 rfl Try.ntmps87 rfl fun w0 M0 => ?_
  refine JC_seq ?_
  refine JC_region ?_
  refine JL_step rfl rfl rfl (jo_box rfl rfl) fun b2 => ?_
  refine JL_pd rfl (det_assign rfl) ?_
  refine JL_nil ?_
  refine JE_seq ?_
  refine JC_seq ?_
  refine JC_region ?_
  refine JL_pd rfl (det_move rfl) ?_
  refine JL_pd rfl (det_fieldAddr rfl fo_56_0) ?_
  refine JL_dt rfl (det_loadK rfl Try.isAgg3 rfl) ?_
  refine JL_pd rfl (det_sub rfl rfl ⟨by omega, by omega⟩) ?_
  refine JL_step rfl rfl rfl (jo_callv rfl rfl Try.call51 rfl (gwithin_j _ _ _)) fun _ => ?_
  refine JL_pd rfl (det_assign rfl) ?_
  refine JL_nil ?_
  refine JE_seq ?_
  refine JC_ret ?_
  -- stop: out
  refine JE_out (.inl rfl) () (results1 Try.results87 (res_tmp rfl)) rfl (List.Perm.refl _) (fun _ _ => trivial)
theorem game_j (n : Int) (a : Option Addr) (m c : Nat) (x : Gm) (h0 : -100 ≤ n ∧ n ≤ 100) : Cv Try.prog 78 [.agg #[I n, .slice a m c], .agg #[I x.a, I x.b, I x.pa, I x.pb, .bool x.op]] KTrue (.bool (gmOk n x)) := by
  have ht := fun y : Int => team_j n a m c y h0
  refine Cx_of Try.func78 rfl Try.ntmps78 rfl fun w0 M0 => ?_
  refine JC_seq ?_
  refine JC_region ?_
  refine JL_step rfl rfl rfl (jo_box rfl rfl) fun b2 => ?_
  refine JL_step rfl rfl rfl (jo_box rfl rfl) fun b3 => ?_
  refine JL_pd rfl (det_assign rfl) ?_
  refine JL_nil ?_
  refine JE_seq ?_
  refine JC_seq ?_
  refine JC_region ?_
  refine JL_pd rfl (det_fieldAddr rfl fo_92_2) ?_
  refine JL_dt rfl (det_loadK rfl Try.isAgg3 rfl) ?_
  refine JL_step rfl rfl rfl (jo_callv rfl rfl Try.call51 rfl (gwithin_j _ _ _)) fun _ => ?_
  refine JL_pd rfl (det_move rfl) ?_
  -- stop: guard 3
  refine JL_join1 5 5 (.bool (inI x.pa 0 3000 && inI x.pb 0 3000)) (fun hj => ?_) ?_
  · refine JL_split (d0 := 9) rfl (fun q1 => ?_) (fun q1 => ?_)
    · refine JL_guard rfl rfl q1 ?_
      refine JL_pd rfl (det_fieldAddr rfl fo_92_3) ?_
      refine JL_guard rfl rfl q1 ?_
      refine JL_dt rfl (det_loadK rfl Try.isAgg3 rfl) ?_
      refine JL_guard rfl rfl q1 ?_
      refine JL_step rfl rfl rfl (jo_callv rfl rfl Try.call51 rfl (gwithin_j _ _ _)) fun _ => ?_
      refine JL_pd rfl (det_pick_t rfl q1 rfl) ?_
      refine JL_pd rfl (det_assign rfl) ?_
      exact hj (by kernel_rfl) (stsub_consB rfl (by clear hj; first | rfl | (simp only [q1, Bool.and_true, Bool.true_and, Bool.false_and, Bool.and_false, Bool.or_true, Bool.true_or, Bool.or_false, Bool.false_or, Bool.not_true, Bool.not_false]; done) | (simp [q1]; done) | (simp at q1; done) | (simp [q1] <;> omega) | (exfalso; simp at q1; omega)) stsub_nil)
    · refine JL_skip rfl rfl q1 rfl ?_
      refine JL_skip rfl rfl q1 rfl ?_
      refine JL_skip rfl rfl q1 rfl ?_
      refine JL_pd rfl (det_pick_f rfl q1 rfl) ?_
      refine JL_pd rfl (det_assign rfl) ?_
      exact hj (by kernel_rfl) (stsub_consB rfl (by clear hj; first | rfl | (simp only [q1, Bool.and_true, Bool.true_and, Bool.false_and, Bool.and_false, Bool.or_true, Bool.true_or, Bool.or_false, Bool.false_or, Bool.not_true, Bool.not_false]; done) | (simp [q1]; done) | (simp at q1; done) | (simp [q1] <;> omega) | (exfalso; simp at q1; omega)) stsub_nil)
  refine JL_nil ?_
  refine JE_seq ?_
  refine JC_seq ?_
  refine JC_region ?_
  refine JL_dt rfl (det_loadKA rfl Try.isAgg56 Try.sizeOf56 rfl rfl) ?_
  refine JL_pd rfl (det_fieldAddr rfl fo_92_0) ?_
  refine JL_dt rfl (det_loadK rfl Try.isAgg3 rfl) ?_
  refine JL_step rfl rfl rfl (jo_callv rfl rfl Try.call87 rfl (ht _)) fun _ => ?_
  refine JL_pd rfl (det_move rfl) ?_
  -- stop: guard 4
  refine JL_join1 31 4 (.bool (gmOk n x)) (fun hj => ?_) ?_
  · refine JL_split (d0 := 18) rfl (fun q2 => ?_) (fun q2 => ?_)
    · refine JL_guard rfl rfl q2 ?_
      refine JL_dt rfl (det_loadKA rfl Try.isAgg56 Try.sizeOf56 rfl rfl) ?_
      refine JL_guard rfl rfl q2 ?_
      refine JL_pd rfl (det_fieldAddr rfl fo_92_1) ?_
      refine JL_guard rfl rfl q2 ?_
      refine JL_dt rfl (det_loadK rfl Try.isAgg3 rfl) ?_
      refine JL_guard rfl rfl q2 ?_
      refine JL_step rfl rfl rfl (jo_callv rfl rfl Try.call87 rfl (ht _)) fun _ => ?_
      refine JL_pd rfl (det_pick_t rfl q2 rfl) ?_
      refine JL_pd rfl (det_move rfl) ?_
      refine JL_split (d0 := 24) rfl (fun q3 => ?_) (fun q3 => ?_)
      · refine JL_guard rfl rfl q3 ?_
        refine JL_pd rfl (det_fieldAddr rfl fo_92_0) ?_
        refine JL_guard rfl rfl q3 ?_
        refine JL_dt rfl (det_loadK rfl Try.isAgg3 rfl) ?_
        refine JL_guard rfl rfl q3 ?_
        refine JL_pd rfl (det_fieldAddr rfl fo_92_1) ?_
        refine JL_guard rfl rfl q3 ?_
        refine JL_dt rfl (det_loadK rfl Try.isAgg3 rfl) ?_
        refine JL_guard rfl rfl q3 ?_
        refine JL_pd rfl (det_neq rfl rfl) ?_
        refine JL_pd rfl (det_pick_t rfl q3 rfl) ?_
        refine JL_pd rfl (det_move rfl) ?_
        refine JL_split (d0 := 31) rfl (fun q4 => ?_) (fun q4 => ?_)
        · refine JL_guard rfl rfl q4 ?_
          refine JL_pd rfl (det_move rfl) ?_
          refine JL_pd rfl (det_pick_t rfl q4 rfl) ?_
          refine JL_pd rfl (det_move rfl) ?_
          refine JL_split (d0 := 34) rfl (fun q5 => ?_) (fun q5 => ?_)
          · refine JL_guard rfl rfl q5 ?_
            refine JL_pd rfl (det_fieldAddr rfl fo_92_4) ?_
            refine JL_guard rfl rfl q5 ?_
            refine JL_dt rfl (det_loadK rfl Try.isAgg4 rfl) ?_
            refine JL_guard rfl rfl q5 ?_
            refine JL_pd rfl (det_not rfl) ?_
            refine JL_guard rfl rfl q5 ?_
            refine JL_pd rfl (det_move rfl) ?_
            refine JL_split (d0 := 38) rfl (fun q6 => ?_) (fun q6 => ?_)
            · refine JL_skip rfl rfl q6 rfl ?_
              refine JL_skip rfl rfl q6 rfl ?_
              refine JL_skip rfl rfl q6 rfl ?_
              refine JL_skip rfl rfl q6 rfl ?_
              refine JL_skipU rfl rfl rfl ?_
              refine JL_skipU rfl rfl rfl ?_
              refine JL_skipU rfl rfl rfl ?_
              refine JL_skip rfl rfl q6 rfl ?_
              refine JL_guard rfl rfl q5 ?_
              refine JL_pd rfl (det_pick_t rfl q6 rfl) ?_
              refine JL_pd rfl (det_pick_t rfl q5 rfl) ?_
              refine JL_pd rfl (det_assign rfl) ?_
              exact hj (by kernel_rfl) (stsub_consB rfl (by clear hj; first | rfl | (simp only [gmOk, q2, q3, q4, q5, q6, Bool.and_true, Bool.true_and, Bool.false_and, Bool.and_false, Bool.or_true, Bool.true_or, Bool.or_false, Bool.false_or, Bool.not_true, Bool.not_false]; done) | (simp [gmOk, q2, q3, q4, q5, q6]; done) | (simp [gmOk] at q2; done) | (simp [gmOk] at q3; done) | (simp [gmOk] at q4; done) | (simp [gmOk] at q5; done) | (simp [gmOk] at q6; done) | (simp [gmOk, q2, q3, q4, q5, q6] <;> omega) | (exfalso; simp [gmOk] at q2 q3 q4 q5 q6; omega) | (simp [q3, q4, q5, q6, gmOk] at q2; done) | (simp [q2, q4, q5, q6, gmOk] at q3; done) | (simp [q2, q3, q5, q6, gmOk] at q4; done) | (simp [q2, q3, q4, q6, gmOk] at q5; done) | (simp [q2, q3, q4, q5, gmOk] at q6; done)) stsub_nil)
            · refine JL_guard rfl rfl q6 ?_
              refine JL_pd rfl (det_fieldAddr rfl fo_92_2) ?_
              refine JL_guard rfl rfl q6 ?_
              refine JL_dt rfl (det_loadK rfl Try.isAgg3 rfl) ?_
              refine JL_guard rfl rfl q6 ?_
              refine JL_pd rfl (det_eql rfl rfl) ?_
              refine JL_guard rfl rfl q6 ?_
              refine JL_pd rfl (det_move rfl) ?_
              refine JL_split (d0 := 42) rfl (fun q7 => ?_) (fun q7 => ?_)
              · refine JL_guard rfl rfl q7 ?_
                refine JL_pd rfl (det_fieldAddr rfl fo_92_3) ?_
                refine JL_guard rfl rfl q7 ?_
                refine JL_dt rfl (det_loadK rfl Try.isAgg3 rfl) ?_
                refine JL_guard rfl rfl q7 ?_
                refine JL_pd rfl (det_eql rfl rfl) ?_
                refine JL_guard rfl rfl q6 ?_
                refine JL_pd rfl (det_pick_t rfl q7 rfl) ?_
                refine JL_guard rfl rfl q5 ?_
                refine JL_pd rfl (det_pick_f rfl q6 rfl) ?_
                refine JL_pd rfl (det_pick_t rfl q5 rfl) ?_
                refine JL_pd rfl (det_assign rfl) ?_
                exact hj (by kernel_rfl) (stsub_consB rfl (by clear hj; first | rfl | (simp only [gmOk, q2, q3, q4, q5, q6, q7, Bool.and_true, Bool.true_and, Bool.false_and, Bool.and_false, Bool.or_true, Bool.true_or, Bool.or_false, Bool.false_or, Bool.not_true, Bool.not_false]; done) | (simp [gmOk, q2, q3, q4, q5, q6, q7]; done) | (simp [gmOk] at q2; done) | (simp [gmOk] at q3; done) | (simp [gmOk] at q4; done) | (simp [gmOk] at q5; done) | (simp [gmOk] at q6; done) | (simp [gmOk] at q7; done) | (simp [gmOk, q2, q3, q4, q5, q6, q7] <;> omega) | (exfalso; simp [gmOk] at q2 q3 q4 q5 q6 q7; omega) | (simp [q3, q4, q5, q6, q7, gmOk] at q2; done) | (simp [q2, q4, q5, q6, q7, gmOk] at q3; done) | (simp [q2, q3, q5, q6, q7, gmOk] at q4; done) | (simp [q2, q3, q4, q6, q7, gmOk] at q5; done) | (simp [q2, q3, q4, q5, q7, gmOk] at q6; done) | (simp [q2, q3, q4, q5, q6, gmOk] at q7; done)) stsub_nil)
              · refine JL_skip rfl rfl q7 rfl ?_
                refine JL_skip rfl rfl q7 rfl ?_
                refine JL_skip rfl rfl q7 rfl ?_
                refine JL_guard rfl rfl q6 ?_
                refine JL_pd rfl (det_pick_f rfl q7 rfl) ?_
                refine JL_guard rfl rfl q5 ?_
                refine JL_pd rfl (det_pick_f rfl q6 rfl) ?_
                refine JL_pd rfl (det_pick_t rfl q5 rfl) ?_
                refine JL_pd rfl (det_assign rfl) ?_
                exact hj (by kernel_rfl) (stsub_consB rfl (by clear hj; first | rfl | (simp only [gmOk, q2, q3, q4, q5, q6, q7, Bool.and_true, Bool.true_and, Bool.false_and, Bool.and_false, Bool.or_true, Bool.true_or, Bool.or_false, Bool.false_or, Bool.not_true, Bool.not_false]; done) | (simp [gmOk, q2, q3, q4, q5, q6, q7]; done) | (simp [gmOk] at q2; done) | (simp [gmOk] at q3; done) | (simp [gmOk] at q4; done) | (simp [gmOk] at q5; done) | (simp [gmOk] at q6; done) | (simp [gmOk] at q7; done) | (simp [gmOk, q2, q3, q4, q5, q6, q7] <;> omega) | (exfalso; simp [gmOk] at q2 q3 q4 q5 q6 q7; omega) | (simp [q3, q4, q5, q6, q7, gmOk] at q2; done) | (simp [q2, q4, q5, q6, q7, gmOk] at q3; done) | (simp [q2, q3, q5, q6, q7, gmOk] at q4; done) | (simp [q2, q3, q4, q6, q7, gmOk] at q5; done) | (simp [q2, q3, q4, q5, q7, gmOk] at q6; done) | (simp [q2, q3, q4, q5, q6, gmOk] at q7; done)) stsub_nil)
          · refine JL_skip rfl rfl q5 rfl ?_
            refine JL_skip rfl rfl q5 rfl ?_
            refine JL_skip rfl rfl q5 rfl ?_
            refine JL_skip rfl rfl q5 rfl ?_
            refine JL_skipU rfl rfl rfl ?_
            refine JL_skipU rfl rfl rfl ?_
            refine JL_skipU rfl rfl rfl ?_
            refine JL_skipU rfl rfl rfl ?_
            refine JL_skipU rfl rfl rfl ?_
            refine JL_skipU rfl rfl rfl ?_
            refine JL_skipU rfl rfl rfl ?_
            refine JL_skipU rfl rfl rfl ?_
            refine JL_skip rfl rfl q5 rfl ?_
            refine JL_pd rfl (det_pick_f rfl q5 rfl) ?_
            refine JL_pd rfl (det_assign rfl) ?_
            exact hj (by kernel_rfl) (stsub_consB rfl (by clear hj; first | rfl | (simp only [gmOk, q2, q3, q4, q5, Bool.and_true, Bool.true_and, Bool.false_and, Bool.and_false, Bool.or_true, Bool.true_or, Bool.or_false, Bool.false_or, Bool.not_true, Bool.not_false]; done) | (simp [gmOk, q2, q3, q4, q5]; done) | (simp [gmOk] at q2; done) | (simp [gmOk] at q3; done) | (simp [gmOk] at q4; done) | (simp [gmOk] at q5; done) | (simp [gmOk, q2, q3, q4, q5] <;> omega) | (exfalso; simp [gmOk] at q2 q3 q4 q5; omega) | (simp [q3, q4, q5, gmOk] at q2; done) | (simp [q2, q4, q5, gmOk] at q3; done) | (simp [q2, q3, q5, gmOk] at q4; done) | (simp [q2, q3, q4, gmOk] at q5; done)) stsub_nil)
        · refine JL_skip rfl rfl q4 rfl ?_
          refine JL_pd rfl (det_pick_f rfl q4 rfl) ?_
          refine JL_pd rfl (det_move rfl) ?_
          refine JL_skip rfl rfl rfl rfl ?_
          refine JL_skip rfl rfl rfl rfl ?_
          refine JL_skip rfl rfl rfl rfl ?_
          refine JL_skip rfl rfl rfl rfl ?_
          refine JL_skipU rfl rfl rfl ?_
          refine JL_skipU rfl rfl rfl ?_
          refine JL_skipU rfl rfl rfl ?_
          refine JL_skipU rfl rfl rfl ?_
          refine JL_skipU rfl rfl rfl ?_
          refine JL_skipU rfl rfl rfl ?_
          refine JL_skipU rfl rfl rfl ?_
          refine JL_skipU rfl rfl rfl ?_
          refine JL_skip rfl rfl rfl rfl ?_
          refine JL_pd rfl (det_pick_f rfl rfl rfl) ?_
          refine JL_pd rfl (det_assign rfl) ?_
          exact hj (by kernel_rfl) (stsub_consB rfl (by clear hj; first | rfl | (simp only [gmOk, q2, q3, q4, Bool.and_true, Bool.true_and, Bool.false_and, Bool.and_false, Bool.or_true, Bool.true_or, Bool.or_false, Bool.false_or, Bool.not_true, Bool.not_false]; done) | (simp [gmOk, q2, q3, q4]; done) | (simp [gmOk] at q2; done) | (simp [gmOk] at q3; done) | (simp [gmOk] at q4; done) | (simp [gmOk, q2, q3, q4] <;> omega) | (exfalso; simp [gmOk] at q2 q3 q4; omega) | (simp [q3, q4, gmOk] at q2; done) | (simp [q2, q4, gmOk] at q3; done) | (simp [q2, q3, gmOk] at q4; done)) stsub_nil)
      · refine JL_skip rfl rfl q3 rfl ?_
        refine JL_skip rfl rfl q3 rfl ?_
        refine JL_skip rfl rfl q3 rfl ?_
        refine JL_skip rfl rfl q3 rfl ?_
        refine JL_skip rfl rfl q3 rfl ?_
        refine JL_pd rfl (det_pick_f rfl q3 rfl) ?_
        refine JL_pd rfl (det_move rfl) ?_
        refine JL_skip rfl rfl rfl rfl ?_
        refine JL_pd rfl (det_pick_f rfl rfl rfl) ?_
        refine JL_pd rfl (det_move rfl) ?_
        refine JL_skip rfl rfl rfl rfl ?_
        refine JL_skip rfl rfl rfl rfl ?_
        refine JL_skip rfl rfl rfl rfl ?_
        refine JL_skip rfl rfl rfl rfl ?_
        refine JL_skipU rfl rfl rfl ?_
        refine JL_skipU rfl rfl rfl ?_
        refine JL_skipU rfl rfl rfl ?_
        refine JL_skipU rfl rfl rfl ?_
        refine JL_skipU rfl rfl rfl ?_
        refine JL_skipU rfl rfl rfl ?_
        refine JL_skipU rfl rfl rfl ?_
        refine JL_skipU rfl rfl rfl ?_
        refine JL_skip rfl rfl rfl rfl ?_
        refine JL_pd rfl (det_pick_f rfl rfl rfl) ?_
        refine JL_pd rfl (det_assign rfl) ?_
        exact hj (by kernel_rfl) (stsub_consB rfl (by clear hj; first | rfl | (simp only [gmOk, q2, q3, Bool.and_true, Bool.true_and, Bool.false_and, Bool.and_false, Bool.or_true, Bool.true_or, Bool.or_false, Bool.false_or, Bool.not_true, Bool.not_false]; done) | (simp [gmOk, q2, q3]; done) | (simp [gmOk] at q2; done) | (simp [gmOk] at q3; done) | (simp [gmOk, q2, q3] <;> omega) | (exfalso; simp [gmOk] at q2 q3; omega) | (simp [q3, gmOk] at q2; done) | (simp [q2, gmOk] at q3; done)) stsub_nil)
    · refine JL_skip rfl rfl q2 rfl ?_
      refine JL_skip rfl rfl q2 rfl ?_
      refine JL_skip rfl rfl q2 rfl ?_
      refine JL_skip rfl rfl q2 rfl ?_
      refine JL_pd rfl (det_pick_f rfl q2 rfl) ?_
      refine JL_pd rfl (det_move rfl) ?_
      refine JL_skip rfl rfl rfl rfl ?_
      refine JL_skip rfl rfl rfl rfl ?_
      refine JL_skip rfl rfl rfl rfl ?_
      refine JL_skip rfl rfl rfl rfl ?_
      refine JL_skip rfl rfl rfl rfl ?_
      refine JL_pd rfl (det_pick_f rfl rfl rfl) ?_
      refine JL_pd rfl (det_move rfl) ?_
      refine JL_skip rfl rfl rfl rfl ?_
      refine JL_pd rfl (det_pick_f rfl rfl rfl) ?_
      refine JL_pd rfl (det_move rfl) ?_
      refine JL_skip rfl rfl rfl rfl ?_
      refine JL_skip rfl rfl rfl rfl ?_
      refine JL_skip rfl rfl rfl rfl ?_
      refine JL_skip rfl rfl rfl rfl ?_
      refine JL_skipU rfl rfl rfl ?_
      refine JL_skipU rfl rfl rfl ?_
      refine JL_skipU rfl rfl rfl ?_
      refine JL_skipU rfl rfl rfl ?_
      refine JL_skipU rfl rfl rfl ?_
      refine JL_skipU rfl rfl rfl ?_
      refine JL_skipU rfl rfl rfl ?_
      refine JL_skipU rfl rfl rfl ?_
      refine JL_skip rfl rfl rfl rfl ?_
      refine JL_pd rfl (det_pick_f rfl rfl rfl) ?_
      refine JL_pd rfl (det_assign rfl) ?_
      exact hj (by kernel_rfl) (stsub_consB rfl (by clear hj; first | rfl | (simp only [gmOk, q2, Bool.and_true, Bool.true_and, Bool.false_and, Bool.and_false, Bool.or_true, Bool.true_or, Bool.or_false, Bool.false_or, Bool.not_true, Bool.not_false]; done) | (simp [gmOk, q2]; done) | (simp [gmOk] at q2; done) | (simp [gmOk, q2] <;> omega) | (exfalso; simp [gmOk] at q2; omega)) stsub_nil)
  refine JL_nil ?_
  refine JE_seq ?_
  refine JC_ret ?_
  -- stop: out
  refine JE_out (.inl rfl) () (results1 Try.results78 (res_tmp rfl)) rfl (List.Perm.refl _) (fun _ _ => trivial)
theorem gives_j (x : Gm) : Cv Try.prog 84 [.agg #[I x.a, I x.b, I x.pa, I x.pb, .bool x.op]] KTrue (.tuple #[I (gv1 x), I (gv2 x)]) := by
  refine Cx_of Try.func84 rfl Try.ntmps84 rfl fun w0 M0 => ?_
  refine JC_seq ?_
  refine JC_region ?_
  refine JL_step rfl rfl rfl (jo_box rfl rfl) fun b1 => ?_
  refine JL_pd rfl (det_assign rfl) ?_
  refine JL_pd rfl (det_assign rfl) ?_
  refine JL_nil ?_
  refine JE_seq ?_
  refine JC_seq ?_
  refine JC_block ?_
  refine JC_seq ?_
  refine JC_region ?_
  refine JL_pd rfl (det_fieldAddr rfl fo_92_4) ?_
  refine JL_dt rfl (det_loadK rfl Try.isAgg4 rfl) ?_
  refine JL_pd rfl (det_assign rfl) ?_
  refine JL_nil ?_
  refine JE_seq ?_
  refine JC_cond rfl (fun h1 => ?_) (fun h1 => ?_)
  · refine JC_seq ?_
    refine JC_region ?_
    refine JL_pd rfl (det_assign rfl) ?_
    refine JL_pd rfl (det_assign rfl) ?_
    refine JL_nil ?_
    refine JE_seq ?_
    refine JC_ret ?_
    refine JE_block_ret ?_
    refine JE_seq_ret ?_
    refine JE_out (.inl rfl) () (results2 Try.results84 (res_tmp rfl) (res_tmp rfl)) ?_ (List.Perm.refl _) (fun _ _ => trivial)
    (simp_all [gv1, gv2])
    (try omega)
  · refine JC_seq ?_
    refine JC_region ?_
    refine JL_pd rfl (det_fieldAddr rfl fo_92_2) ?_
    refine JL_dt rfl (det_loadK rfl Try.isAgg3 rfl) ?_
    refine JL_pd rfl (det_fieldAddr rfl fo_92_3) ?_
    refine JL_dt rfl (det_loadK rfl Try.isAgg3 rfl) ?_
    refine JL_pd rfl (det_gtr rfl rfl) ?_
    refine JL_pd rfl (det_assign rfl) ?_
    refine JL_nil ?_
    refine JE_seq ?_
    refine JC_cond rfl (fun h2 => ?_) (fun h2 => ?_)
    · refine JC_seq ?_
      refine JC_region ?_
      refine JL_pd rfl (det_assign rfl) ?_
      refine JL_pd rfl (det_assign rfl) ?_
      refine JL_nil ?_
      refine JE_seq ?_
      refine JC_ret ?_
      refine JE_block_ret ?_
      refine JE_seq_ret ?_
      refine JE_out (.inl rfl) () (results2 Try.results84 (res_tmp rfl) (res_tmp rfl)) ?_ (List.Perm.refl _) (fun _ _ => trivial)
      (simp_all [gv1, gv2])
      (try omega)
    · refine JC_seq ?_
      refine JC_region ?_
      refine JL_pd rfl (det_fieldAddr rfl fo_92_2) ?_
      refine JL_dt rfl (det_loadK rfl Try.isAgg3 rfl) ?_
      refine JL_pd rfl (det_fieldAddr rfl fo_92_3) ?_
      refine JL_dt rfl (det_loadK rfl Try.isAgg3 rfl) ?_
      refine JL_pd rfl (det_lss rfl rfl) ?_
      refine JL_pd rfl (det_assign rfl) ?_
      refine JL_nil ?_
      refine JE_seq ?_
      refine JC_cond rfl (fun h3 => ?_) (fun h3 => ?_)
      · refine JC_seq ?_
        refine JC_region ?_
        refine JL_pd rfl (det_assign rfl) ?_
        refine JL_pd rfl (det_assign rfl) ?_
        refine JL_nil ?_
        refine JE_seq ?_
        refine JC_ret ?_
        refine JE_block_ret ?_
        refine JE_seq_ret ?_
        refine JE_out (.inl rfl) () (results2 Try.results84 (res_tmp rfl) (res_tmp rfl)) ?_ (List.Perm.refl _) (fun _ _ => trivial)
        (simp_all [gv1, gv2])
        (try omega)
      · refine JC_skip ?_
        refine JE_block ?_
        refine JE_seq ?_
        refine JC_seq ?_
        refine JC_region ?_
        refine JL_pd rfl (det_assign rfl) ?_
        refine JL_pd rfl (det_assign rfl) ?_
        refine JL_nil ?_
        refine JE_seq ?_
        refine JC_ret ?_
        refine JE_out (.inl rfl) () (results2 Try.results84 (res_tmp rfl) (res_tmp rfl)) ?_ (List.Perm.refl _) (fun _ _ => trivial)
        (simp_all [gv1, gv2])
        (try omega)
end Go.Proofs.Ythpkgabckklojaa.Bl

/- League: all of a list; whether a league is valid. -/
namespace Go.Proofs.Ythpkgabckklojaa.Bl
open Go.RowKit Go.Shelf

def encB (n : Int) : List Value := [.int .u8 n]
instance : Rec encB 1 := ⟨fun _ => rfl, by decide⟩
theorem encB_one (y : Int) : (encB y).all (·.oneCell') = true := rfl
set_option maxRecDepth 100000 in
theorem indexFuncG_j (p : Gm → Bool) (F : Nat) (fs cs : List Value) (Kf : World → Prop) (eF : ∀ args w, (callFunc F args).run Try.prog w = .ok (.enter F args) w) (a : Option Addr) (cap : Nat) (xs : List Gm) (hF : ∀ x ∈ xs, Cv Try.prog F (fs ++ [.agg #[I x.a, I x.b, I x.pa, I x.pb, .bool x.op]] ++ cs) Kf (.bool (p x))) (hl : xs.length ≤ 9223372036854775807) :
    Cv Try.prog 119 [.slice a xs.length cap, .func (.func F) fs.toArray cs.toArray] (KAnd (KSl a xs.length cap encG xs) Kf) (I (idxOf p xs)) := by
  refine Cx_of Try.func119 rfl Try.ntmps119 rfl fun w0 M0 => ?_
  refine JC_seq ?_
  refine JC_region ?_
  refine JL_pd rfl (det_assign rfl) ?_
  refine JL_nil ?_
  refine JE_seq ?_
  refine JC_seq ?_
  refine JC_seq ?_
  refine JC_region ?_
  refine JL_pd rfl (det_move rfl) ?_
  refine JL_pd rfl (det_len rfl Try.runUnderlying54) ?_
  refine JL_pd rfl (det_move rfl) ?_
  refine JL_nil ?_
  refine JE_seq ?_
  refine JC_block ?_
  -- stop: loop
  refine JC_loopF (γ := Nat) (fun i => i ≤ xs.length ∧ (xs.take i).any p = false) (fun i => [(8, I i)]) (fun _ => []) (fun i => xs.length - i) 0 ⟨Nat.zero_le _, rfl⟩ (stsub_consI rfl rfl stsub_nil) ht_nil ?_
  rintro i ⟨hi, hno⟩ K hK
  dsimp only [List.cons_append, List.nil_append]
  refine JC_seq ?_
  refine JC_region ?_
  refine JL_pd rfl (det_lss rfl rfl) ?_
  refine JL_nil ?_
  refine JE_seq ?_
  refine JC_seq ?_
  -- stop: cond
  refine JC_if rfl (fun h1 => ?_) (fun h1 => ?_)
  · have hi2 : i < xs.length := by omega
    refine JC_skip ?_
    refine JE_seq ?_
    refine JC_seq ?_
    refine JC_block ?_
    refine JC_seq ?_
    refine JC_region ?_
    refine JL_pd rfl (det_move rfl) ?_
    refine JL_pd rfl (det_assign rfl) ?_
    refine JL_nil ?_
    refine JE_seq ?_
    refine JC_seq ?_
    refine JC_region ?_
    refine JL_pd rfl (det_move rfl) ?_
    refine JL_pd rfl (det_move rfl) ?_
    refine JL_pd rfl (det_move rfl) ?_
    refine JL_dt rfl (det_indexAddr rfl rfl (by first | rfl | omega) (by first | assumption | omega | decide) Try.runUnderlying54 Try.sizeOf92) ?_
    refine JL_dt rfl (det_loadEA rfl (by first | assumption | omega | decide) Try.isAgg92 Try.sizeOf92 rfl rfl rfl) ?_
    -- stop: op  5 t16 := (call (Call (value t11) (t15) (92)))   <0 4>   109
    refine JL_step rfl rfl rfl (jo_callv rfl rfl eF rfl (hF xs[i] (List.getElem_mem hi2))) fun _ => ?_
    refine JL_nil ?_
    refine JE_seq ?_
    -- stop: cond
    refine JC_cond rfl (fun h2 => ?_) (fun h2 => ?_)
    · refine JC_seq ?_
      refine JC_region ?_
      refine JL_pd rfl (det_move rfl) ?_
      refine JL_pd rfl (det_assign rfl) ?_
      refine JL_nil ?_
      refine JE_seq ?_
      refine JC_ret ?_
      refine JE_block_ret ?_
      refine JE_seq_ret ?_
      refine JE_then_ret ?_
      refine JE_block_ret ?_
      refine JE_seq_ret ?_
      -- stop: out
      refine JE_out (.inl rfl) () (results1 Try.results119 (res_tmp rfl)) (by rw [idxOf_hit hi2 hno h2]) (List.Perm.refl _) (fun _ _ => trivial)
    · refine JC_skip ?_
      refine JE_block ?_
      refine JE_seq ?_
      refine JC_region ?_
      refine JL_pd rfl (det_add rfl rfl ⟨by omega, by omega⟩) ?_
      refine JL_pd rfl (det_move rfl) ?_
      refine JL_nil ?_
      -- stop: end
      refine JE_roundF hK (i + 1) ⟨by omega, by rw [take_snoc hi2, List.any_append, hno]; simp [h2]⟩ (by omega) (stsub_consI rfl (by omega) stsub_nil) ht_nil
  · refine JC_exit ?_
    refine JE_seq_exit ?_
    refine JE_then_exit ?_
    refine JE_block_here ?_
    refine JE_seq ?_
    refine JC_seq ?_
    refine JC_region ?_
    refine JL_pd rfl (det_assign rfl) ?_
    refine JL_nil ?_
    refine JE_seq ?_
    refine JC_ret ?_
    -- stop: out
    obtain rfl : i = xs.length := by omega
    rw [List.take_length] at hno
    refine JE_out (.inl rfl) () (results1 Try.results119 (res_tmp rfl)) (by rw [idxOf_none hno]) (List.Perm.refl _) (fun _ _ => trivial)
theorem containsFuncG_j (p : Gm → Bool) (F : Nat) (fs cs : List Value) (Kf : World → Prop) (eF : ∀ args w, (callFunc F args).run Try.prog w = .ok (.enter F args) w) (a : Option Addr) (cap : Nat) (xs : List Gm) (hF : ∀ x ∈ xs, Cv Try.prog F (fs ++ [.agg #[I x.a, I x.b, I x.pa, I x.pb, .bool x.op]] ++ cs) Kf (.bool (p x))) (hl : xs.length ≤ 9223372036854775807) :
    Cv Try.prog 117 [.slice a xs.length cap, .func (.func F) fs.toArray cs.toArray] (KAnd (KSl a xs.length cap encG xs) Kf) (.bool (xs.any p)) := by
  refine Cx_of Try.func117 rfl Try.ntmps117 rfl fun w0 M0 => ?_
  refine JC_seq ?_
  refine JC_region ?_
  refine JL_pd rfl (det_assign rfl) ?_
  refine JL_nil ?_
  refine JE_seq ?_
  refine JC_seq ?_
  refine JC_region ?_
  refine JL_pd rfl (det_move rfl) ?_
  refine JL_pd rfl (det_move rfl) ?_
  -- stop: op  2 t7 := (call (Call (value f119) (t5 t6) (54 146)))   <0 1>   125
  refine JL_step rfl rfl rfl (jo_callv rfl rfl Try.call119 rfl (indexFuncG_j p F fs cs Kf eF a cap xs hF hl)) fun _ => ?_
  refine JL_pd rfl (det_geq rfl rfl) ?_
  refine JL_pd rfl (det_assign rfl) ?_
  refine JL_nil ?_
  refine JE_seq ?_
  refine JC_ret ?_
  -- stop: out
  refine JE_out (.inl rfl) () (results1 Try.results117 (res_tmp rfl)) (by rw [show decide ((0 : Int) ≤ idxOf p xs) = xs.any p from idxOf_any]) (List.Perm.refl _) (fun _ _ => trivial)
theorem allG_1 (p : Gm → Bool) (F : Nat) (fs cs : List Value) (Kf : World → Prop) (eF : ∀ args w, (callFunc F args).run Try.prog w = .ok (.enter F args) w) (x : Gm) (hF : Cv Try.prog F (fs ++ [.agg #[I x.a, I x.b, I x.pa, I x.pb, .bool x.op]] ++ cs) Kf (.bool (p x))) (b : Nat) :
    Cv Try.prog 118 [.agg #[I x.a, I x.b, I x.pa, I x.pb, .bool x.op], .pointer (some ⟨b, 0, none⟩)] (KAnd (KBox b [.func (.func F) fs.toArray cs.toArray]) Kf) (.bool (!p x)) := by
  refine Cx_of Try.func118 rfl Try.ntmps118 rfl fun w0 M0 => ?_
  refine JC_seq ?_
  refine JC_region ?_
  refine JL_step rfl rfl rfl (jo_box rfl rfl) fun b2 => ?_
  refine JL_pd rfl (det_assign rfl) ?_
  refine JL_nil ?_
  refine JE_seq ?_
  refine JC_seq ?_
  refine JC_region ?_
  refine JL_dt rfl (det_loadK rfl Try.isAgg146 rfl) ?_
  refine JL_dt rfl (det_loadKA rfl Try.isAgg92 Try.sizeOf92 rfl rfl) ?_
  -- stop: op  2 t6 := (call (Call (value t4) (t5) (92)))   <0 1>   45
  refine JL_step rfl rfl rfl (jo_callv rfl rfl eF rfl (hF)) fun _ => ?_
  refine JL_pd rfl (det_not rfl) ?_
  refine JL_pd rfl (det_assign rfl) ?_
  refine JL_nil ?_
  refine JE_seq ?_
  refine JC_ret ?_
  -- stop: out
  refine JE_out (.inl rfl) () (results1 Try.results118 (res_tmp rfl)) rfl (List.Perm.refl _) (fun _ _ => trivial)
theorem allG_j (p : Gm → Bool) (F : Nat) (fs cs : List Value) (Kf : World → Prop) (eF : ∀ args w, (callFunc F args).run Try.prog w = .ok (.enter F args) w) (a : Option Addr) (cap : Nat) (xs : List Gm) (hF : ∀ x ∈ xs, Cv Try.prog F (fs ++ [.agg #[I x.a, I x.b, I x.pa, I x.pb, .bool x.op]] ++ cs) Kf (.bool (p x))) (hl : xs.length ≤ 9223372036854775807) :
    Cv Try.prog 77 [.slice a xs.length cap, .func (.func F) fs.toArray cs.toArray] (KAnd (KSl a xs.length cap encG xs) Kf) (.bool (xs.all p)) := by
  have hcf := fun b3 : Nat => containsFuncG_j (fun x => !p x) 118 [] [.pointer (some ⟨b3, 0, none⟩)] _ Try.call118 a cap xs (fun x hx => allG_1 p F fs cs Kf eF x (hF x hx) b3) hl
  refine Cx_of Try.func77 rfl Try.ntmps77 rfl fun w0 M0 => ?_
  refine JC_seq ?_
  refine JC_region ?_
  refine JL_step rfl rfl rfl (jo_box rfl rfl) fun b3 => ?_
  refine JL_pd rfl (det_assign rfl) ?_
  refine JL_nil ?_
  refine JE_seq ?_
  refine JC_seq ?_
  refine JC_region ?_
  refine JL_pd rfl (det_move rfl) ?_
  refine JL_pd rfl (det_makeFuncE rfl rfl) ?_
  -- stop: op  2 t7 := (call (Call (value f117) (t5 t6) (54 146)))   <0 1>   45
  refine JL_keep b3 noFp ?_
  refine JL_step rfl rfl rfl (jo_callv rfl rfl Try.call117 rfl (hcf b3)) fun _ => ?_
  refine JL_pd rfl (det_not rfl) ?_
  refine JL_pd rfl (det_assign rfl) ?_
  refine JL_nil ?_
  refine JE_seq ?_
  refine JC_ret ?_
  -- stop: out
  refine JE_out (.inl rfl) () (results1 Try.results77 (res_tmp rfl)) (by simp [List.all_eq_not_any_not]) (List.Perm.refl _) (fun _ _ => trivial)
set_option maxRecDepth 100000 in
theorem indexFuncU_j (p : Int → Bool) (F : Nat) (fs cs : List Value) (Kf : World → Prop) (eF : ∀ args w, (callFunc F args).run Try.prog w = .ok (.enter F args) w) (a : Option Addr) (cap : Nat) (xs : List Int) (hF : ∀ x ∈ xs, Cv Try.prog F (fs ++ [.int .u8 x] ++ cs) Kf (.bool (p x))) (hl : xs.length ≤ 9223372036854775807) :
    Cv Try.prog 120 [.slice a xs.length cap, .func (.func F) fs.toArray cs.toArray] (KAnd (KSl a xs.length cap encB xs) Kf) (I (idxOf p xs)) := by
  refine Cx_of Try.func120 rfl Try.ntmps120 rfl fun w0 M0 => ?_
  refine JC_seq ?_
  refine JC_region ?_
  refine JL_pd rfl (det_assign rfl) ?_
  refine JL_nil ?_
  refine JE_seq ?_
  refine JC_seq ?_
  refine JC_seq ?_
  refine JC_region ?_
  refine JL_pd rfl (det_move rfl) ?_
  refine JL_pd rfl (det_len rfl Try.runUnderlying52) ?_
  refine JL_pd rfl (det_move rfl) ?_
  refine JL_nil ?_
  refine JE_seq ?_
  refine JC_block ?_
  -- stop: loop
  refine JC_loopF (γ := Nat) (fun i => i ≤ xs.length ∧ (xs.take i).any p = false) (fun i => [(8, I i)]) (fun _ => []) (fun i => xs.length - i) 0 ⟨Nat.zero_le _, rfl⟩ (stsub_consI rfl rfl stsub_nil) ht_nil ?_
  rintro i ⟨hi, hno⟩ K hK
  dsimp only [List.cons_append, List.nil_append]
  refine JC_seq ?_
  refine JC_region ?_
  refine JL_pd rfl (det_lss rfl rfl) ?_
  refine JL_nil ?_
  refine JE_seq ?_
  refine JC_seq ?_
  -- stop: cond
  refine JC_if rfl (fun h1 => ?_) (fun h1 => ?_)
  · have hi2 : i < xs.length := by omega
    refine JC_skip ?_
    refine JE_seq ?_
    refine JC_seq ?_
    refine JC_block ?_
    refine JC_seq ?_
    refine JC_region ?_
    refine JL_pd rfl (det_move rfl) ?_
    refine JL_pd rfl (det_assign rfl) ?_
    refine JL_nil ?_
    refine JE_seq ?_
    refine JC_seq ?_
    refine JC_region ?_
    refine JL_pd rfl (det_move rfl) ?_
    refine JL_pd rfl (det_move rfl) ?_
    refine JL_pd rfl (det_move rfl) ?_
    refine JL_dt rfl (det_indexAddr rfl rfl (by first | rfl | omega) (by first | assumption | omega | decide) Try.runUnderlying52 Try.sizeOf5) ?_
    refine JL_dt rfl (det_loadE rfl (by first | assumption | omega | decide) Try.isAgg5 rfl rfl) ?_
    -- stop: op  5 t16 := (call (Call (value t11) (t15) (5)))   <0 4>   109
    refine JL_step rfl rfl rfl (jo_callv rfl rfl eF rfl (hF xs[i] (List.getElem_mem hi2))) fun _ => ?_
    refine JL_nil ?_
    refine JE_seq ?_
    -- stop: cond
    refine JC_cond rfl (fun h2 => ?_) (fun h2 => ?_)
    · refine JC_seq ?_
      refine JC_region ?_
      refine JL_pd rfl (det_move rfl) ?_
      refine JL_pd rfl (det_assign rfl) ?_
      refine JL_nil ?_
      refine JE_seq ?_
      refine JC_ret ?_
      refine JE_block_ret ?_
      refine JE_seq_ret ?_
      refine JE_then_ret ?_
      refine JE_block_ret ?_
      refine JE_seq_ret ?_
      -- stop: out
      refine JE_out (.inl rfl) () (results1 Try.results120 (res_tmp rfl)) (by rw [idxOf_hit hi2 hno h2]) (List.Perm.refl _) (fun _ _ => trivial)
    · refine JC_skip ?_
      refine JE_block ?_
      refine JE_seq ?_
      refine JC_region ?_
      refine JL_pd rfl (det_add rfl rfl ⟨by omega, by omega⟩) ?_
      refine JL_pd rfl (det_move rfl) ?_
      refine JL_nil ?_
      -- stop: end
      refine JE_roundF hK (i + 1) ⟨by omega, by rw [take_snoc hi2, List.any_append, hno]; simp [h2]⟩ (by omega) (stsub_consI rfl (by omega) stsub_nil) ht_nil
  · refine JC_exit ?_
    refine JE_seq_exit ?_
    refine JE_then_exit ?_
    refine JE_block_here ?_
    refine JE_seq ?_
    refine JC_seq ?_
    refine JC_region ?_
    refine JL_pd rfl (det_assign rfl) ?_
    refine JL_nil ?_
    refine JE_seq ?_
    refine JC_ret ?_
    -- stop: out
    obtain rfl : i = xs.length := by omega
    rw [List.take_length] at hno
    refine JE_out (.inl rfl) () (results1 Try.results120 (res_tmp rfl)) (by rw [idxOf_none hno]) (List.Perm.refl _) (fun _ _ => trivial)
theorem containsFuncU_j (p : Int → Bool) (F : Nat) (fs cs : List Value) (Kf : World → Prop) (eF : ∀ args w, (callFunc F args).run Try.prog w = .ok (.enter F args) w) (a : Option Addr) (cap : Nat) (xs : List Int) (hF : ∀ x ∈ xs, Cv Try.prog F (fs ++ [.int .u8 x] ++ cs) Kf (.bool (p x))) (hl : xs.length ≤ 9223372036854775807) :
    Cv Try.prog 82 [.slice a xs.length cap, .func (.func F) fs.toArray cs.toArray] (KAnd (KSl a xs.length cap encB xs) Kf) (.bool (xs.any p)) := by
  refine Cx_of Try.func82 rfl Try.ntmps82 rfl fun w0 M0 => ?_
  refine JC_seq ?_
  refine JC_region ?_
  refine JL_pd rfl (det_assign rfl) ?_
  refine JL_nil ?_
  refine JE_seq ?_
  refine JC_seq ?_
  refine JC_region ?_
  refine JL_pd rfl (det_move rfl) ?_
  refine JL_pd rfl (det_move rfl) ?_
  -- stop: op  2 t7 := (call (Call (value f120) (t5 t6) (52 96)))   <0 1>   125
  refine JL_step rfl rfl rfl (jo_callv rfl rfl Try.call120 rfl (indexFuncU_j p F fs cs Kf eF a cap xs hF hl)) fun _ => ?_
  refine JL_pd rfl (det_geq rfl rfl) ?_
  refine JL_pd rfl (det_assign rfl) ?_
  refine JL_nil ?_
  refine JE_seq ?_
  refine JC_ret ?_
  -- stop: out
  refine JE_out (.inl rfl) () (results1 Try.results82 (res_tmp rfl)) (by rw [show decide ((0 : Int) ≤ idxOf p xs) = xs.any p from idxOf_any]) (List.Perm.refl _) (fun _ _ => trivial)
theorem allU_1 (p : Int → Bool) (F : Nat) (fs cs : List Value) (Kf : World → Prop) (eF : ∀ args w, (callFunc F args).run Try.prog w = .ok (.enter F args) w) (x : Int) (hF : Cv Try.prog F (fs ++ [.int .u8 x] ++ cs) Kf (.bool (p x))) (b : Nat) :
    Cv Try.prog 83 [.int .u8 x, .pointer (some ⟨b, 0, none⟩)] (KAnd (KBox b [.func (.func F) fs.toArray cs.toArray]) Kf) (.bool (!p x)) := by
  refine Cx_of Try.func83 rfl Try.ntmps83 rfl fun w0 M0 => ?_
  refine JC_seq ?_
  refine JC_region ?_
  refine JL_pd rfl (det_assign rfl) ?_
  refine JL_nil ?_
  refine JE_seq ?_
  refine JC_seq ?_
  refine JC_region ?_
  refine JL_dt rfl (det_loadK rfl Try.isAgg96 rfl) ?_
  refine JL_pd rfl (det_move rfl) ?_
  -- stop: op  2 t6 := (call (Call (value t4) (t5) (5)))   <0 1>   45
  refine JL_step rfl rfl rfl (jo_callv rfl rfl eF rfl (hF)) fun _ => ?_
  refine JL_pd rfl (det_not rfl) ?_
  refine JL_pd rfl (det_assign rfl) ?_
  refine JL_nil ?_
  refine JE_seq ?_
  refine JC_ret ?_
  -- stop: out
  refine JE_out (.inl rfl) () (results1 Try.results83 (res_tmp rfl)) rfl (List.Perm.refl _) (fun _ _ => trivial)
theorem allU_j (p : Int → Bool) (F : Nat) (fs cs : List Value) (Kf : World → Prop) (eF : ∀ args w, (callFunc F args).run Try.prog w = .ok (.enter F args) w) (a : Option Addr) (cap : Nat) (xs : List Int) (hF : ∀ x ∈ xs, Cv Try.prog F (fs ++ [.int .u8 x] ++ cs) Kf (.bool (p x))) (hl : xs.length ≤ 9223372036854775807) :
    Cv Try.prog 42 [.slice a xs.length cap, .func (.func F) fs.toArray cs.toArray] (KAnd (KSl a xs.length cap encB xs) Kf) (.bool (xs.all p)) := by
  have hcf := fun b3 : Nat => containsFuncU_j (fun x => !p x) 83 [] [.pointer (some ⟨b3, 0, none⟩)] _ Try.call83 a cap xs (fun x hx => allU_1 p F fs cs Kf eF x (hF x hx) b3) hl
  refine Cx_of Try.func42 rfl Try.ntmps42 rfl fun w0 M0 => ?_
  refine JC_seq ?_
  refine JC_region ?_
  refine JL_step rfl rfl rfl (jo_box rfl rfl) fun b3 => ?_
  refine JL_pd rfl (det_assign rfl) ?_
  refine JL_nil ?_
  refine JE_seq ?_
  refine JC_seq ?_
  refine JC_region ?_
  refine JL_pd rfl (det_move rfl) ?_
  refine JL_pd rfl (det_makeFuncE rfl rfl) ?_
  -- stop: op  2 t7 := (call (Call (value f82) (t5 t6) (52 96)))   <0 1>   45
  refine JL_keep b3 noFp ?_
  refine JL_step rfl rfl rfl (jo_callv rfl rfl Try.call82 rfl (hcf b3)) fun _ => ?_
  refine JL_pd rfl (det_not rfl) ?_
  refine JL_pd rfl (det_assign rfl) ?_
  refine JL_nil ?_
  refine JE_seq ?_
  refine JC_ret ?_
  -- stop: out
  refine JE_out (.inl rfl) () (results1 Try.results42 (res_tmp rfl)) (by simp [List.all_eq_not_any_not]) (List.Perm.refl _) (fun _ _ => trivial)
theorem CheckLeague_j (n : Int) (a : Option Addr) (c : Nat) (l : List Gm) : Cv Try.prog 40 [.agg #[I n, .slice a l.length c]] (KSl a l.length c encG l) (I (lgE n l)) := by
  by_cases hn : inI n 2 6 = true
  · have hn2 := inI_iff.1 hn
    have htj := teams_j n
    rw [hn] at htj
    refine Cx_of Try.func40 rfl Try.ntmps40 rfl fun w0 M0 => ?_
    refine JC_seq ?_
    refine JC_region ?_
    refine JL_step rfl rfl rfl (jo_box rfl rfl) fun b1 => ?_
    refine JL_pd rfl (det_assign rfl) ?_
    refine JL_nil ?_
    refine JE_seq ?_
    refine JC_seq ?_
    refine JC_block ?_
    refine JC_seq ?_
    refine JC_region ?_
    refine JL_pd rfl (det_fieldAddr rfl fo_56_1) ?_
    refine JL_dt rfl (det_loadK rfl Try.isAgg54 rfl) ?_
    refine JL_pd rfl (det_len rfl Try.runUnderlying54) ?_
    refine JL_pd rfl (det_gtr rfl rfl) ?_
    refine JL_pd rfl (det_assign rfl) ?_
    refine JL_nil ?_
    refine JE_seq ?_
    -- stop: cond
    refine JC_pure (p := l.length ≤ 9223372036854775807) (by intro w h; exact h.1.bd) fun hz => ?_
    have hallj := allG_j (gmOk n) 78 [.agg #[I n, .slice a l.length c]] [] KTrue Try.call78 a c l (fun x _ => game_j n a l.length c x (by omega)) hz
    refine JC_if rfl (fun h1 => ?_) (fun h1 => ?_)
    · refine JC_seq ?_
      refine JC_region ?_
      refine JL_pd rfl (det_assign rfl) ?_
      refine JL_nil ?_
      refine JE_seq ?_
      refine JC_ret ?_
      refine JE_block_ret ?_
      refine JE_seq_ret ?_
      -- stop: out
      refine JE_out (.inl rfl) () (results1 Try.results40 (res_tmp rfl)) (by unfold lgE; rw [if_pos (by omega)]) (List.Perm.refl _) (fun _ _ => trivial)
    · refine JC_seq ?_
      refine JC_region ?_
      refine JL_pd rfl (det_fieldAddr rfl fo_56_0) ?_
      refine JL_dt rfl (det_loadK rfl Try.isAgg3 rfl) ?_
      refine JL_step rfl rfl rfl (jo_callv rfl rfl Try.call20 rfl (htj)) fun _ => ?_
      refine JL_pd rfl (det_not rfl) ?_
      refine JL_pd rfl (det_move rfl) ?_
      -- stop: guard 4
      refine JL_join1 8 8 (.bool (!(l.all (gmOk n)))) (fun hj => ?_) ?_
      · refine JL_split (d0 := 13) rfl (fun q1 => ?_) (fun q1 => ?_)
        · refine JL_skip rfl rfl q1 rfl ?_
          refine JL_skip rfl rfl q1 rfl ?_
          refine JL_skip rfl rfl q1 rfl ?_
          refine JL_skip rfl rfl q1 rfl ?_
          refine JL_skip rfl rfl q1 rfl ?_
          refine JL_skip rfl rfl q1 rfl ?_
          refine JL_pd rfl (det_pick_t rfl q1 rfl) ?_
          refine JL_pd rfl (det_assign rfl) ?_
          exact hj (by kernel_rfl) (stsub_consB rfl (by clear hj; first | rfl | (simp only [q1, Bool.and_true, Bool.true_and, Bool.false_and, Bool.and_false, Bool.or_true, Bool.true_or, Bool.or_false, Bool.false_or, Bool.not_true, Bool.not_false]; done) | (simp [q1]; done) | (simp at q1; done) | (simp [q1] <;> omega) | (exfalso; simp at q1; omega)) stsub_nil)
        · refine JL_guard rfl rfl q1 ?_
          refine JL_pd rfl (det_fieldAddr rfl fo_56_1) ?_
          refine JL_guard rfl rfl q1 ?_
          refine JL_dt rfl (det_loadK rfl Try.isAgg54 rfl) ?_
          refine JL_guard rfl rfl q1 ?_
          refine JL_dt rfl (det_loadKA rfl Try.isAgg56 Try.sizeOf56 rfl rfl) ?_
          refine JL_guard rfl rfl q1 ?_
          refine JL_pd rfl (det_makeFuncE rfl rfl) ?_
          refine JL_guard rfl rfl q1 ?_
          refine JL_step rfl rfl rfl (jo_callv rfl rfl Try.call77 rfl (hallj)) fun _ => ?_
          refine JL_guard rfl rfl q1 ?_
          refine JL_pd rfl (det_not rfl) ?_
          refine JL_pd rfl (det_pick_f rfl q1 rfl) ?_
          refine JL_pd rfl (det_assign rfl) ?_
          exact hj (by kernel_rfl) (stsub_consB rfl (by clear hj; first | rfl | (simp only [q1, Bool.and_true, Bool.true_and, Bool.false_and, Bool.and_false, Bool.or_true, Bool.true_or, Bool.or_false, Bool.false_or, Bool.not_true, Bool.not_false]; done) | (simp [q1]; done) | (simp at q1; done) | (simp [q1] <;> omega) | (exfalso; simp at q1; omega)) stsub_nil)
      refine JL_nil ?_
      refine JE_seq ?_
      -- stop: cond
      refine JC_cond rfl (fun h2 => ?_) (fun h2 => ?_)
      · refine JC_seq ?_
        refine JC_region ?_
        refine JL_pd rfl (det_assign rfl) ?_
        refine JL_nil ?_
        refine JE_seq ?_
        refine JC_ret ?_
        refine JE_block_ret ?_
        refine JE_seq_ret ?_
        -- stop: out
        refine JE_out (.inl rfl) () (results1 Try.results40 (res_tmp rfl)) (by unfold lgE; rw [if_neg (by omega), if_pos (by rw [hn, Bool.true_and]; simpa using h2)]) (List.Perm.refl _) (fun _ _ => trivial)
      · refine JC_skip ?_
        refine JE_block ?_
        refine JE_seq ?_
        refine JC_seq ?_
        refine JC_region ?_
        refine JL_pd rfl (det_assign rfl) ?_
        refine JL_nil ?_
        refine JE_seq ?_
        refine JC_ret ?_
        -- stop: out
        refine JE_out (.inl rfl) () (results1 Try.results40 (res_tmp rfl)) (by unfold lgE; rw [if_neg (by omega), if_neg (by rw [hn, Bool.true_and]; simpa using h2)]) (List.Perm.refl _) (fun _ _ => trivial)
  · rw [Bool.not_eq_true] at hn
    have htj := teams_j n
    rw [hn] at htj
    refine Cx_of Try.func40 rfl Try.ntmps40 rfl fun w0 M0 => ?_
    refine JC_seq ?_
    refine JC_region ?_
    refine JL_step rfl rfl rfl (jo_box rfl rfl) fun b1 => ?_
    refine JL_pd rfl (det_assign rfl) ?_
    refine JL_nil ?_
    refine JE_seq ?_
    refine JC_seq ?_
    refine JC_block ?_
    refine JC_seq ?_
    refine JC_region ?_
    refine JL_pd rfl (det_fieldAddr rfl fo_56_1) ?_
    refine JL_dt rfl (det_loadK rfl Try.isAgg54 rfl) ?_
    refine JL_pd rfl (det_len rfl Try.runUnderlying54) ?_
    refine JL_pd rfl (det_gtr rfl rfl) ?_
    refine JL_pd rfl (det_assign rfl) ?_
    refine JL_nil ?_
    refine JE_seq ?_
    -- stop: cond
    refine JC_pure (p := l.length ≤ 9223372036854775807) (by intro w h; exact h.1.bd) fun hz => ?_
    refine JC_if rfl (fun h1 => ?_) (fun h1 => ?_)
    · refine JC_seq ?_
      refine JC_region ?_
      refine JL_pd rfl (det_assign rfl) ?_
      refine JL_nil ?_
      refine JE_seq ?_
      refine JC_ret ?_
      refine JE_block_ret ?_
      refine JE_seq_ret ?_
      -- stop: out
      refine JE_out (.inl rfl) () (results1 Try.results40 (res_tmp rfl)) (by unfold lgE; rw [if_pos (by omega)]) (List.Perm.refl _) (fun _ _ => trivial)
    · refine JC_seq ?_
      refine JC_region ?_
      refine JL_pd rfl (det_fieldAddr rfl fo_56_0) ?_
      refine JL_dt rfl (det_loadK rfl Try.isAgg3 rfl) ?_
      refine JL_step rfl rfl rfl (jo_callv rfl rfl Try.call20 rfl (htj)) fun _ => ?_
      refine JL_pd rfl (det_not rfl) ?_
      refine JL_pd rfl (det_move rfl) ?_
      -- stop: guard 4
      refine JL_is (d0 := 13) true rfl (by rfl) (fun k1 => ?_)
      refine JL_skip rfl rfl k1 rfl ?_
      refine JL_skip rfl rfl k1 rfl ?_
      refine JL_skip rfl rfl k1 rfl ?_
      refine JL_skip rfl rfl k1 rfl ?_
      refine JL_skip rfl rfl k1 rfl ?_
      refine JL_skip rfl rfl k1 rfl ?_
      refine JL_pd rfl (det_pick_t rfl k1 rfl) ?_
      refine JL_pd rfl (det_assign rfl) ?_
      refine JL_nil ?_
      refine JE_seq ?_
      refine JC_condT rfl rfl ?_
      refine JC_seq ?_
      refine JC_region ?_
      refine JL_pd rfl (det_assign rfl) ?_
      refine JL_nil ?_
      refine JE_seq ?_
      refine JC_ret ?_
      refine JE_block_ret ?_
      refine JE_seq_ret ?_
      -- stop: out
      refine JE_out (.inl rfl) () (results1 Try.results40 (res_tmp rfl)) (by unfold lgE; rw [if_neg (by omega), if_pos (by rw [hn, Bool.false_and])]) (List.Perm.refl _) (fun _ _ => trivial)
end Go.Proofs.Ythpkgabckklojaa.Bl

/- League: the points of all teams. -/
namespace Go.Proofs.Ythpkgabckklojaa.Bl
open Go.RowKit Go.Shelf

def updP (f : Nat → Int) (i : Nat) (x : Int) : Nat → Int := fun j => if j = i then x else f j
def encP (n : Nat) (f : Nat → Int) : List Value := (List.range n).map fun i => I (f i)
theorem encP_len (n : Nat) (f : Nat → Int) : (encP n f).length = n := by simp [encP]
theorem encP_get {n : Nat} {f : Nat → Int} {i : Nat} (h : i < n) : (encP n f)[0 + i * 1]? = some (I (f i)) := by
  rw [Nat.zero_add, Nat.mul_one]; simp [encP, h]
theorem encP_set (n : Nat) (f : Nat → Int) (i : Nat) (x : Int) : splice (encP n f) (0 + i * 1) [I x] = encP n (updP f i x) := by
  rw [Nat.zero_add, Nat.mul_one]
  show (encP n f).set i (I x) = _
  apply List.ext_getElem?
  intro j
  rw [List.getElem?_set]
  by_cases hj : j < n
  · have e1 : (encP n (updP f i x))[j]? = some (I (updP f i x j)) := by simp [encP, hj]
    have e2 : (encP n f)[j]? = some (I (f j)) := by simp [encP, hj]
    rw [e1, e2, encP_len]
    by_cases e : i = j
    · subst e; rw [if_pos rfl, if_pos hj]; unfold updP; rw [if_pos rfl]
    · rw [if_neg e]; unfold updP; rw [if_neg (Ne.symm e)]
  · have e1 : (encP n (updP f i x))[j]? = none := List.getElem?_eq_none (by rw [encP_len]; omega)
    have e2 : (encP n f)[j]? = none := List.getElem?_eq_none (by rw [encP_len]; omega)
    rw [e1, e2, encP_len]
    split
    · rw [if_neg (by omega)]
    · rfl
def ptG (g : Gm) (t : Nat) : Int := (if g.a = (t : Int) then gv1 g else 0) + (if g.b = (t : Int) then gv2 g else 0)
def sumF (l : List Gm) (t : Nat) : Int := (l.map fun g => ptG g t).sum
theorem sumF_snoc (l : List Gm) (g : Gm) (t : Nat) : sumF (l ++ [g]) t = sumF l t + ptG g t := by simp [sumF]
theorem gv_bd (g : Gm) : 0 ≤ gv1 g ∧ 0 ≤ gv2 g ∧ gv1 g + gv2 g ≤ 2 := by
  unfold gv1 gv2
  split
  · omega
  · split
    · omega
    · split <;> omega
theorem ptG_bd (g : Gm) (t : Nat) : 0 ≤ ptG g t ∧ ptG g t ≤ 2 := by
  have := gv_bd g
  unfold ptG
  split <;> split <;> omega
theorem sumF_bd (l : List Gm) (t : Nat) : 0 ≤ sumF l t ∧ sumF l t ≤ 2 * (l.length : Int) := by
  induction l with
  | nil => simp [sumF]
  | cons g l ih =>
    have := ptG_bd g t
    have e : sumF (g :: l) t = ptG g t + sumF l t := by simp [sumF]
    rw [e, List.length_cons]; omega
theorem sum_step {n : Int} {g : Gm} (l : List Gm) (V : VGm n g) (na nb : Nat) (ha : g.a = (na : Int)) (hb : g.b = (nb : Int)) : updP (updP (sumF l) na (sumF l na + gv1 g)) nb (sumF l nb + gv2 g) = sumF (l ++ [g]) := by
  have hne := V.ne
  funext t
  rw [sumF_snoc]
  unfold updP ptG
  by_cases h1 : t = nb
  · subst h1
    rw [if_pos rfl, if_neg (by omega), if_pos hb]; omega
  · rw [if_neg h1, if_neg (show ¬ g.b = (t : Int) by omega)]
    by_cases h2 : t = na
    · subst h2; rw [if_pos rfl, if_pos ha]; omega
    · rw [if_neg h2, if_neg (show ¬ g.a = (t : Int) by omega)]; omega
set_option maxRecDepth 100000 in
theorem sums_j (n : Int) (a : Option Addr) (c : Nat) (l : List Gm) (V : VL n l) : Cv Try.prog 44 [.agg #[I n, .slice a l.length c]] (KSl a l.length c encG l) (.agg (encP 6 (sumF l)).toArray) := by
  have hl := V.l1
  have hn := V.n1
  refine Cx_of Try.func44 rfl Try.ntmps44 rfl fun w0 M0 => ?_
  refine JC_seq ?_
  refine JC_region ?_
  refine JL_step rfl rfl rfl (jo_box rfl rfl) fun b1 => ?_
  refine JL_step rfl rfl rfl (jo_alloc0 Try.zeroValue98 rfl) fun b2 => ?_
  refine JL_nil ?_
  refine JE_seq ?_
  refine JC_seq ?_
  refine JC_seq ?_
  refine JC_region ?_
  refine JL_pd rfl (det_fieldAddr rfl fo_56_1) ?_
  refine JL_dt rfl (det_loadK rfl Try.isAgg54 rfl) ?_
  refine JL_pd rfl (det_len rfl Try.runUnderlying54) ?_
  refine JL_pd rfl (det_move rfl) ?_
  refine JL_nil ?_
  refine JE_seq ?_
  refine JC_block ?_
  -- stop: loop
  refine JC_loopF (γ := Nat) (fun i => i ≤ l.length) (fun i => [(10, I i)]) (fun i => [bx b2 (encP 6 (sumF (l.take i)))]) (fun i => l.length - i) 0 (Nat.zero_le _) (stsub_consI rfl rfl stsub_nil) (ht_bx rfl ht_nil) ?_
  intro i hi K hK
  dsimp only [List.cons_append, List.nil_append]
  refine JC_seq ?_
  refine JC_region ?_
  refine JL_pd rfl (det_lss rfl rfl) ?_
  refine JL_nil ?_
  refine JE_seq ?_
  refine JC_seq ?_
  -- stop: cond
  refine JC_if rfl (fun h1 => ?_) (fun h1 => ?_)
  · have hi2 : i < l.length := by omega
    have Vg := V.g _ (List.getElem_mem hi2)
    have hsn : l.take (i + 1) = l.take i ++ [l[i]] := List.take_succ_eq_append_getElem hi2
    obtain ⟨na, ha⟩ : ∃ na : Nat, l[i].a = (na : Int) := ⟨l[i].a.toNat, by have := Vg.a0; omega⟩
    obtain ⟨nb, hb⟩ : ∃ nb : Nat, l[i].b = (nb : Int) := ⟨l[i].b.toNat, by have := Vg.b0; omega⟩
    have hna : na < 6 := by have := Vg.a1; omega
    have hnb : nb < 6 := by have := Vg.b1; omega
    have hne : nb ≠ na := fun e => Vg.ne (by rw [ha, hb, e])
    have bd := fun t => sumF_bd (l.take i) t
    have bg := gv_bd l[i]
    have ba := bd na
    have bb := bd nb
    rw [List.length_take] at ba bb
    have hup : updP (sumF (l.take i)) na (sumF (l.take i) na + gv1 l[i]) nb = sumF (l.take i) nb := by unfold updP; rw [if_neg hne]
    have hst := sum_step (l.take i) Vg na nb ha hb
    rw [← hsn] at hst
    refine JC_skip ?_
    refine JE_seq ?_
    refine JC_seq ?_
    refine JC_block ?_
    refine JC_seq ?_
    refine JC_region ?_
    refine JL_dt rfl (det_indexAddr rfl rfl (by first | rfl | omega) (by first | assumption | omega | decide) Try.runUnderlying54 Try.sizeOf92) ?_
    refine JL_dt rfl (det_loadEA rfl (by first | assumption | omega | decide) Try.isAgg92 Try.sizeOf92 rfl rfl rfl) ?_
    refine JL_step rfl rfl rfl (jo_alloc0 Try.zeroValue92 rfl) fun b4 => ?_
    refine JL_step0 rfl rfl (jo_store rfl rfl rfl (by first | (simp only [splice_norm]; done) | (simp only [splice_norm]; rfl) | rfl) Try.sizeOf92 rfl rfl) fun _ => ?_
    refine JL_nil ?_
    refine JE_seq ?_
    refine JC_seq ?_
    refine JC_region ?_
    refine JL_dt rfl (det_loadKA rfl Try.isAgg92 Try.sizeOf92 rfl rfl) ?_
    refine JL_step rfl rfl rfl (jo_callv rfl rfl Try.call84 rfl (gives_j _)) fun _ => ?_
    refine JL_pd rfl (det_move rfl) ?_
    refine JL_pd rfl (det_extract rfl rfl) ?_
    refine JL_pd rfl (det_extract rfl rfl) ?_
    refine JL_pd rfl (det_assign rfl) ?_
    refine JL_pd rfl (det_assign rfl) ?_
    refine JL_nil ?_
    refine JE_seq ?_
    refine JC_seq ?_
    refine JC_region ?_
    refine JL_pd rfl (det_fieldAddr rfl fo_92_0) ?_
    refine JL_dt rfl (det_loadK rfl Try.isAgg3 rfl) ?_
    refine JL_pd rfl (det_indexArr (i := na) rfl rfl ha hna Try.runUnderlying98 Try.sizeOf3) ?_
    refine JL_dt rfl (det_loadK rfl Try.isAgg3 (encP_get hna)) ?_
    refine JL_pd rfl (det_move rfl) ?_
    refine JL_pd rfl (det_add rfl rfl ⟨by omega, by omega⟩) ?_
    refine JL_pd rfl (det_indexArr (i := na) rfl rfl ha hna Try.runUnderlying98 Try.sizeOf3) ?_
    refine JL_step0 rfl rfl (jo_store rfl rfl rfl (encP_set 6 _ na _) Try.sizeOf3 (by rw [encP_len, Nat.ble_eq]; simp only [List.length_cons, List.length_nil]; omega) rfl) fun _ => ?_
    refine JL_nil ?_
    refine JE_seq ?_
    refine JC_region ?_
    refine JL_pd rfl (det_fieldAddr rfl fo_92_1) ?_
    refine JL_dt rfl (det_loadK rfl Try.isAgg3 rfl) ?_
    refine JL_pd rfl (det_indexArr (i := nb) rfl rfl hb hnb Try.runUnderlying98 Try.sizeOf3) ?_
    refine JL_dt rfl (det_loadK rfl Try.isAgg3 ((encP_get hnb).trans (by rw [hup]))) ?_
    refine JL_pd rfl (det_move rfl) ?_
    refine JL_pd rfl (det_add rfl rfl ⟨by omega, by omega⟩) ?_
    refine JL_pd rfl (det_indexArr (i := nb) rfl rfl hb hnb Try.runUnderlying98 Try.sizeOf3) ?_
    refine JL_step0 rfl rfl (jo_store rfl rfl rfl (encP_set 6 _ nb _) Try.sizeOf3 (by rw [encP_len, Nat.ble_eq]; simp only [List.length_cons, List.length_nil]; omega) rfl) fun _ => ?_
    refine JL_nil ?_
    refine JE_block ?_
    refine JE_seq ?_
    refine JC_region ?_
    refine JL_pd rfl (det_add rfl rfl ⟨by omega, by omega⟩) ?_
    refine JL_pd rfl (det_move rfl) ?_
    refine JL_nil ?_
    -- stop: end
    refine JE_roundF hK (i + 1) (by omega) (by omega) (stsub_consI rfl (by omega) stsub_nil) (ht_bx (by rw [hst]) ht_nil)
  · obtain rfl : i = l.length := by omega
    rw [List.take_length]
    refine JC_exit ?_
    refine JE_seq_exit ?_
    refine JE_then_exit ?_
    refine JE_block_here ?_
    refine JE_seq ?_
    refine JC_seq ?_
    refine JC_region ?_
    refine JL_dt rfl (det_loadKA rfl Try.isAgg98 Try.sizeOf98 rfl rfl) ?_
    refine JL_step0 rfl rfl (jo_store rfl rfl rfl (by first | (simp only [splice_norm]; done) | (simp only [splice_norm]; rfl) | rfl) Try.sizeOf98 rfl rfl) fun _ => ?_
    refine JL_nil ?_
    refine JE_seq ?_
    refine JC_ret ?_
    -- stop: out
    refine JE_out (.inl rfl) () (results1 Try.results44 (res_box rfl Try.isAgg98 Try.sizeOf98 rfl)) rfl (List.Perm.refl _) (fun _ _ => trivial)
end Go.Proofs.Ythpkgabckklojaa.Bl

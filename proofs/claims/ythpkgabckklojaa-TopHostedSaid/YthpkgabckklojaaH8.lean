/- Own texts, laid together: E5 E6 E7 ShEn E8 E9. Nothing is asked. -/
import Derived.Test.YthpkgabckklojaaJF
import Derived.Test.YthpkgabckklojaaH7
import Derived.Test.YthpkgabckklojaaH4
import Derived.Shelf.SlGeneric
import Derived.Shelf.SlSortCmp.Whole1
import Derived.Ground.SlsfProg
import Derived.Test.YthpkgabckklojaaProg
import Derived.Shelf.SlSortCmp.NoneTotal
import Derived.Shelf.SlSortCmp.QuietGrown
import Derived.StillTailTactics
set_option linter.unusedSimpArgs false
set_option linter.unusedVariables false
/- Walks of lend: numbers, and what all of a list are. -/
namespace Go.Proofs.Ythpkgabckklojaa.En
open Go.RowKit Go.Shelf

/-- A house, and a group, with where their lists lie. -/
structure Hx where
  h : Hs
  a : Option Addr
  c : Nat
structure Gx where
  g : Gr
  a : Option Addr
  c : Nat
instance : Inhabited Gx := ⟨⟨default, none, 0⟩⟩
def encG (x : Gx) : List Value := [I x.g.fr, I x.g.lo, I x.g.hi, .slice x.a x.g.feet.length x.c]
instance : Rec encG 4 := ⟨fun _ => rfl, by decide⟩
abbrev KHx (x : Hx) : World → Prop := KSl x.a x.h.shoes.length x.c encI x.h.shoes
def KFt (xs : List Gx) : World → Prop := fun w => ∀ x ∈ xs, KSl x.a x.g.feet.length x.c encI x.g.feet w
abbrev KGs (a : Option Addr) (c : Nat) (xs : List Gx) : World → Prop := KAnd (KSl a xs.length c encG xs) (KFt xs)
abbrev gs (xs : List Gx) : List Gr := xs.map (·.g)
theorem take_snoc {α : Type} {l : List α} {i : Nat} (h : i < l.length) : l.take (i + 1) = l.take i ++ [l[i]] := List.take_succ_eq_append_getElem h
theorem within_j (n lo hi : Int) : Cv Try.prog 58 [I n, I lo, I hi] KTrue (.bool (inI n lo hi)) := by
  refine Cx_of Try.func58 rfl Try.ntmps58 rfl fun w0 M0 => ?_
  refine JC_seq ?_
  refine JC_region ?_
  refine JL_pd rfl (det_assign rfl) ?_
  refine JL_nil ?_
  refine JE_seq ?_
  refine JC_seq ?_
  refine JC_region ?_
  refine JL_pd rfl (det_move rfl) ?_
  refine JL_pd rfl (det_move rfl) ?_
  refine JL_pd rfl (det_leq rfl rfl) ?_
  refine JL_pd rfl (det_move rfl) ?_
  refine JL_split (d0 := 10) rfl (fun h1 => ?_) (fun h1 => ?_)
  · refine JL_guard rfl rfl h1 ?_
    refine JL_pd rfl (det_move rfl) ?_
    refine JL_guard rfl rfl h1 ?_
    refine JL_pd rfl (det_move rfl) ?_
    refine JL_guard rfl rfl h1 ?_
    refine JL_pd rfl (det_leq rfl rfl) ?_
    refine JL_pd rfl (det_pick_t rfl h1 rfl) ?_
    refine JL_pd rfl (det_assign rfl) ?_
    refine JL_nil ?_
    refine JE_seq ?_
    refine JC_ret ?_
    refine JE_out (.inl rfl) () (results1 Try.results58 (res_tmp rfl)) ?_ (List.Perm.refl _) (fun _ _ => trivial)
    (simp_all [inI])
    (try omega)
  · refine JL_skip rfl rfl h1 rfl ?_
    refine JL_skip rfl rfl h1 rfl ?_
    refine JL_skip rfl rfl h1 rfl ?_
    refine JL_pd rfl (det_pick_f rfl h1 rfl) ?_
    refine JL_pd rfl (det_assign rfl) ?_
    refine JL_nil ?_
    refine JE_seq ?_
    refine JC_ret ?_
    refine JE_out (.inl rfl) () (results1 Try.results58 (res_tmp rfl)) ?_ (List.Perm.refl _) (fun _ _ => trivial)
    (simp_all [inI])
    (try omega)
theorem size_j (n : Int) : Cv Try.prog 109 [I n] KTrue (.bool (inI n 0 9)) := by
  refine Cx_of Try.func109 rfl Try.ntmps109 rfl fun w0 M0 => ?_
  refine JC_seq ?_
  refine JC_region ?_
  refine JL_pd rfl (det_assign rfl) ?_
  refine JL_nil ?_
  refine JE_seq ?_
  refine JC_seq ?_
  refine JC_region ?_
  refine JL_pd rfl (det_move rfl) ?_
  refine JL_step rfl rfl rfl (jo_callv rfl rfl Try.call58 rfl (within_j _ _ _)) fun _ => ?_
  refine JL_pd rfl (det_assign rfl) ?_
  refine JL_nil ?_
  refine JE_seq ?_
  refine JC_ret ?_
  refine JE_out (.inl rfl) () (results1 Try.results109 (res_tmp rfl)) ?_ (List.Perm.refl _) (fun _ _ => trivial)
  rfl
theorem hour_j (n : Int) : Cv Try.prog 35 [I n] KTrue (.bool (inI n 0 30)) := by
  refine Cx_of Try.func35 rfl Try.ntmps35 rfl fun w0 M0 => ?_
  refine JC_seq ?_
  refine JC_region ?_
  refine JL_pd rfl (det_assign rfl) ?_
  refine JL_nil ?_
  refine JE_seq ?_
  refine JC_seq ?_
  refine JC_region ?_
  refine JL_pd rfl (det_move rfl) ?_
  refine JL_step rfl rfl rfl (jo_callv rfl rfl Try.call58 rfl (within_j _ _ _)) fun _ => ?_
  refine JL_pd rfl (det_assign rfl) ?_
  refine JL_nil ?_
  refine JE_seq ?_
  refine JC_ret ?_
  refine JE_out (.inl rfl) () (results1 Try.results35 (res_tmp rfl)) ?_ (List.Perm.refl _) (fun _ _ => trivial)
  rfl
theorem pairs_j (n : Int) : Cv Try.prog 122 [I n] KTrue (.bool (inI n 0 20)) := by
  refine Cx_of Try.func122 rfl Try.ntmps122 rfl fun w0 M0 => ?_
  refine JC_seq ?_
  refine JC_region ?_
  refine JL_pd rfl (det_assign rfl) ?_
  refine JL_nil ?_
  refine JE_seq ?_
  refine JC_seq ?_
  refine JC_region ?_
  refine JL_pd rfl (det_move rfl) ?_
  refine JL_step rfl rfl rfl (jo_callv rfl rfl Try.call58 rfl (within_j _ _ _)) fun _ => ?_
  refine JL_pd rfl (det_assign rfl) ?_
  refine JL_nil ?_
  refine JE_seq ?_
  refine JC_ret ?_
  refine JE_out (.inl rfl) () (results1 Try.results122 (res_tmp rfl)) ?_ (List.Perm.refl _) (fun _ _ => trivial)
  rfl

set_option maxRecDepth 100000 in
theorem indexFuncI_j (p : Int → Bool) (F : Nat) (fs cs : List Value) (Kf : World → Prop) (eF : ∀ args w, (callFunc F args).run Try.prog w = .ok (.enter F args) w) (hF : ∀ x : Int, Cv Try.prog F (fs ++ [I x] ++ cs) Kf (.bool (p x))) (a : Option Addr) (cap : Nat) (xs : List Int) (hl : xs.length ≤ 9223372036854775807) :
    Cv Try.prog 121 [.slice a xs.length cap, .func (.func F) fs.toArray cs.toArray] (KAnd (KSl a xs.length cap encI xs) Kf) (I (idxOf p xs)) := by
  refine Cx_of Try.func121 rfl Try.ntmps121 rfl fun w0 M0 => ?_
  refine JC_seq ?_
  refine JC_region ?_
  refine JL_pd rfl (det_assign rfl) ?_
  refine JL_nil ?_
  refine JE_seq ?_
  refine JC_seq ?_
  refine JC_seq ?_
  refine JC_region ?_
  refine JL_pd rfl (det_move rfl) ?_
  refine JL_pd rfl (det_len rfl Try.runUnderlying26) ?_
  refine JL_pd rfl (det_move rfl) ?_
  refine JL_nil ?_
  refine JE_seq ?_
  refine JC_block ?_
  -- stop: loop
  refine JC_loopF (γ := Nat) (fun i => i ≤ xs.length ∧ (xs.take i).any p = false) (fun i => [(8, I i)]) (fun _ => []) (fun i => xs.length - i) 0 ⟨Nat.zero_le _, rfl⟩ (stsub_consI rfl rfl stsub_nil) ht_nil ?_
  rintro i ⟨hi, hno⟩ K hK
  dsimp only [List.cons_append, List.nil_append]
  refine JC_seq ?_
  refine JC_region ?_
  refine JL_pd rfl (det_lss rfl rfl) ?_
  refine JL_nil ?_
  refine JE_seq ?_
  refine JC_seq ?_
  -- stop: cond
  refine JC_if rfl (fun h1 => ?_) (fun h1 => ?_)
  · have hi2 : i < xs.length := by omega
    refine JC_skip ?_
    refine JE_seq ?_
    refine JC_seq ?_
    refine JC_block ?_
    refine JC_seq ?_
    refine JC_region ?_
    refine JL_pd rfl (det_move rfl) ?_
    refine JL_pd rfl (det_assign rfl) ?_
    refine JL_nil ?_
    refine JE_seq ?_
    refine JC_seq ?_
    refine JC_region ?_
    refine JL_pd rfl (det_move rfl) ?_
    refine JL_pd rfl (det_move rfl) ?_
    refine JL_pd rfl (det_move rfl) ?_
    refine JL_dt rfl (det_indexAddr rfl rfl (by first | rfl | omega) (by first | assumption | omega | decide) Try.runUnderlying26 Try.sizeOf3) ?_
    refine JL_dt rfl (det_loadE rfl (by first | assumption | omega | decide) Try.isAgg3 rfl rfl) ?_
    -- stop: op  5 t16 := (call (Call (value t11) (t15) (3)))   <0 4>   109
    refine JL_step rfl rfl rfl (jo_callv rfl rfl eF rfl (hF xs[i])) fun _ => ?_
    refine JL_nil ?_
    refine JE_seq ?_
    -- stop: cond
    refine JC_cond rfl (fun h2 => ?_) (fun h2 => ?_)
    · refine JC_seq ?_
      refine JC_region ?_
      refine JL_pd rfl (det_move rfl) ?_
      refine JL_pd rfl (det_assign rfl) ?_
      refine JL_nil ?_
      refine JE_seq ?_
      refine JC_ret ?_
      refine JE_block_ret ?_
      refine JE_seq_ret ?_
      refine JE_then_ret ?_
      refine JE_block_ret ?_
      refine JE_seq_ret ?_
      -- stop: out
      refine JE_out (.inl rfl) () (results1 Try.results121 (res_tmp rfl)) (by rw [idxOf_hit hi2 hno h2]) (List.Perm.refl _) (fun _ _ => trivial)
    · refine JC_skip ?_
      refine JE_block ?_
      refine JE_seq ?_
      refine JC_region ?_
      refine JL_pd rfl (det_add rfl rfl ⟨by omega, by omega⟩) ?_
      refine JL_pd rfl (det_move rfl) ?_
      refine JL_nil ?_
      -- stop: end
      refine JE_roundF hK (i + 1) ⟨by omega, by rw [take_snoc hi2, List.any_append, hno]; simp [h2]⟩ (by omega) (stsub_consI rfl (by omega) stsub_nil) ht_nil
  · refine JC_exit ?_
    refine JE_seq_exit ?_
    refine JE_then_exit ?_
    refine JE_block_here ?_
    refine JE_seq ?_
    refine JC_seq ?_
    refine JC_region ?_
    refine JL_pd rfl (det_assign rfl) ?_
    refine JL_nil ?_
    refine JE_seq ?_
    refine JC_ret ?_
    -- stop: out
    obtain rfl : i = xs.length := by omega
    rw [List.take_length] at hno
    refine JE_out (.inl rfl) () (results1 Try.results121 (res_tmp rfl)) (by rw [idxOf_none hno]) (List.Perm.refl _) (fun _ _ => trivial)
theorem containsFuncI_j (p : Int → Bool) (F : Nat) (fs cs : List Value) (Kf : World → Prop) (eF : ∀ args w, (callFunc F args).run Try.prog w = .ok (.enter F args) w) (hF : ∀ x : Int, Cv Try.prog F (fs ++ [I x] ++ cs) Kf (.bool (p x))) (a : Option Addr) (cap : Nat) (xs : List Int) (hl : xs.length ≤ 9223372036854775807) :
    Cv Try.prog 85 [.slice a xs.length cap, .func (.func F) fs.toArray cs.toArray] (KAnd (KSl a xs.length cap encI xs) Kf) (.bool (xs.any p)) := by
  refine Cx_of Try.func85 rfl Try.ntmps85 rfl fun w0 M0 => ?_
  refine JC_seq ?_
  refine JC_region ?_
  refine JL_pd rfl (det_assign rfl) ?_
  refine JL_nil ?_
  refine JE_seq ?_
  refine JC_seq ?_
  refine JC_region ?_
  refine JL_pd rfl (det_move rfl) ?_
  refine JL_pd rfl (det_move rfl) ?_
  -- stop: op  2 t7 := (call (Call (value f121) (t5 t6) (26 62)))   <0 1>   125
  refine JL_step rfl rfl rfl (jo_callv rfl rfl Try.call121 rfl (indexFuncI_j p F fs cs Kf eF hF a cap xs hl)) fun _ => ?_
  refine JL_pd rfl (det_geq rfl rfl) ?_
  refine JL_pd rfl (det_assign rfl) ?_
  refine JL_nil ?_
  refine JE_seq ?_
  refine JC_ret ?_
  -- stop: out
  refine JE_out (.inl rfl) () (results1 Try.results85 (res_tmp rfl)) (by rw [show decide ((0 : Int) ≤ idxOf p xs) = xs.any p from idxOf_any]) (List.Perm.refl _) (fun _ _ => trivial)
theorem allI_1 (p : Int → Bool) (F : Nat) (fs cs : List Value) (Kf : World → Prop) (eF : ∀ args w, (callFunc F args).run Try.prog w = .ok (.enter F args) w) (hF : ∀ x : Int, Cv Try.prog F (fs ++ [I x] ++ cs) Kf (.bool (p x))) (b : Nat) (x : Int) :
    Cv Try.prog 90 [I x, .pointer (some ⟨b, 0, none⟩)] (KAnd (KBox b [.func (.func F) fs.toArray cs.toArray]) Kf) (.bool (!p x)) := by
  refine Cx_of Try.func90 rfl Try.ntmps90 rfl fun w0 M0 => ?_
  refine JC_seq ?_
  refine JC_region ?_
  refine JL_pd rfl (det_assign rfl) ?_
  refine JL_nil ?_
  refine JE_seq ?_
  refine JC_seq ?_
  refine JC_region ?_
  refine JL_dt rfl (det_loadK rfl Try.isAgg62 rfl) ?_
  refine JL_pd rfl (det_move rfl) ?_
  -- stop: op  2 t6 := (call (Call (value t4) (t5) (3)))   <0 1>   36
  refine JL_step rfl rfl rfl (jo_callv rfl rfl eF rfl (hF x)) fun _ => ?_
  refine JL_pd rfl (det_not rfl) ?_
  refine JL_pd rfl (det_assign rfl) ?_
  refine JL_nil ?_
  refine JE_seq ?_
  refine JC_ret ?_
  -- stop: out
  refine JE_out (.inl rfl) () (results1 Try.results90 (res_tmp rfl)) rfl (List.Perm.refl _) (fun _ _ => trivial)
theorem allI_j (p : Int → Bool) (F : Nat) (fs cs : List Value) (Kf : World → Prop) (eF : ∀ args w, (callFunc F args).run Try.prog w = .ok (.enter F args) w) (hF : ∀ x : Int, Cv Try.prog F (fs ++ [I x] ++ cs) Kf (.bool (p x))) (a : Option Addr) (cap : Nat) (xs : List Int) (hl : xs.length ≤ 9223372036854775807) :
    Cv Try.prog 59 [.slice a xs.length cap, .func (.func F) fs.toArray cs.toArray] (KAnd (KSl a xs.length cap encI xs) Kf) (.bool (xs.all p)) := by
  have hcf := fun b3 : Nat => containsFuncI_j (fun x => !p x) 90 [] [.pointer (some ⟨b3, 0, none⟩)] _ Try.call90 (allI_1 p F fs cs Kf eF hF b3) a cap xs hl
  refine Cx_of Try.func59 rfl Try.ntmps59 rfl fun w0 M0 => ?_
  refine JC_seq ?_
  refine JC_region ?_
  refine JL_step rfl rfl rfl (jo_box rfl rfl) fun b3 => ?_
  refine JL_pd rfl (det_assign rfl) ?_
  refine JL_nil ?_
  refine JE_seq ?_
  refine JC_seq ?_
  refine JC_region ?_
  refine JL_pd rfl (det_move rfl) ?_
  refine JL_pd rfl (det_makeFuncE rfl rfl) ?_
  -- stop: op  2 t7 := (call (Call (value f85) (t5 t6) (26 62)))   <0 1>   36
  refine JL_keep b3 noFp ?_
  refine JL_step rfl rfl rfl (jo_callv rfl rfl Try.call85 rfl (hcf b3)) fun _ => ?_
  refine JL_pd rfl (det_not rfl) ?_
  refine JL_pd rfl (det_assign rfl) ?_
  refine JL_nil ?_
  refine JE_seq ?_
  refine JC_ret ?_
  -- stop: out
  refine JE_out (.inl rfl) () (results1 Try.results59 (res_tmp rfl)) (by simp [List.all_eq_not_any_not]) (List.Perm.refl _) (fun _ _ => trivial)

set_option maxRecDepth 100000 in
theorem indexFuncG_j (p : Gx → Bool) (F : Nat) (fs cs : List Value) (Kf : World → Prop) (eF : ∀ args w, (callFunc F args).run Try.prog w = .ok (.enter F args) w) (a : Option Addr) (cap : Nat) (xs : List Gx) (hF : ∀ x ∈ xs, Cv Try.prog F (fs ++ [.agg #[I x.g.fr, I x.g.lo, I x.g.hi, .slice x.a x.g.feet.length x.c]] ++ cs) Kf (.bool (p x))) (hl : xs.length ≤ 9223372036854775807) :
    Cv Try.prog 136 [.slice a xs.length cap, .func (.func F) fs.toArray cs.toArray] (KAnd (KSl a xs.length cap encG xs) Kf) (I (idxOf p xs)) := by
  refine Cx_of Try.func136 rfl Try.ntmps136 rfl fun w0 M0 => ?_
  refine JC_seq ?_
  refine JC_region ?_
  refine JL_pd rfl (det_assign rfl) ?_
  refine JL_nil ?_
  refine JE_seq ?_
  refine JC_seq ?_
  refine JC_seq ?_
  refine JC_region ?_
  refine JL_pd rfl (det_move rfl) ?_
  refine JL_pd rfl (det_len rfl Try.runUnderlying29) ?_
  refine JL_pd rfl (det_move rfl) ?_
  refine JL_nil ?_
  refine JE_seq ?_
  refine JC_block ?_
  -- stop: loop
  refine JC_loopF (γ := Nat) (fun i => i ≤ xs.length ∧ (xs.take i).any p = false) (fun i => [(8, I i)]) (fun _ => []) (fun i => xs.length - i) 0 ⟨Nat.zero_le _, rfl⟩ (stsub_consI rfl rfl stsub_nil) ht_nil ?_
  rintro i ⟨hi, hno⟩ K hK
  dsimp only [List.cons_append, List.nil_append]
  refine JC_seq ?_
  refine JC_region ?_
  refine JL_pd rfl (det_lss rfl rfl) ?_
  refine JL_nil ?_
  refine JE_seq ?_
  refine JC_seq ?_
  -- stop: cond
  refine JC_if rfl (fun h1 => ?_) (fun h1 => ?_)
  · have hi2 : i < xs.length := by omega
    refine JC_skip ?_
    refine JE_seq ?_
    refine JC_seq ?_
    refine JC_block ?_
    refine JC_seq ?_
    refine JC_region ?_
    refine JL_pd rfl (det_move rfl) ?_
    refine JL_pd rfl (det_assign rfl) ?_
    refine JL_nil ?_
    refine JE_seq ?_
    refine JC_seq ?_
    refine JC_region ?_
    refine JL_pd rfl (det_move rfl) ?_
    refine JL_pd rfl (det_move rfl) ?_
    refine JL_pd rfl (det_move rfl) ?_
    refine JL_dt rfl (det_indexAddr rfl rfl (by first | rfl | omega) (by first | assumption | omega | decide) Try.runUnderlying29 Try.sizeOf34) ?_
    refine JL_dt rfl (det_loadEA rfl (by first | assumption | omega | decide) Try.isAgg34 Try.sizeOf34 rfl rfl rfl) ?_
    -- stop: op  5 t16 := (call (Call (value t11) (t15) (34)))   <0 4>   109
    refine JL_step rfl rfl rfl (jo_callv rfl rfl eF rfl (hF xs[i] (List.getElem_mem hi2))) fun _ => ?_
    refine JL_nil ?_
    refine JE_seq ?_
    -- stop: cond
    refine JC_cond rfl (fun h2 => ?_) (fun h2 => ?_)
    · refine JC_seq ?_
      refine JC_region ?_
      refine JL_pd rfl (det_move rfl) ?_
      refine JL_pd rfl (det_assign rfl) ?_
      refine JL_nil ?_
      refine JE_seq ?_
      refine JC_ret ?_
      refine JE_block_ret ?_
      refine JE_seq_ret ?_
      refine JE_then_ret ?_
      refine JE_block_ret ?_
      refine JE_seq_ret ?_
      -- stop: out
      refine JE_out (.inl rfl) () (results1 Try.results136 (res_tmp rfl)) (by rw [idxOf_hit hi2 hno h2]) (List.Perm.refl _) (fun _ _ => trivial)
    · refine JC_skip ?_
      refine JE_block ?_
      refine JE_seq ?_
      refine JC_region ?_
      refine JL_pd rfl (det_add rfl rfl ⟨by omega, by omega⟩) ?_
      refine JL_pd rfl (det_move rfl) ?_
      refine JL_nil ?_
      -- stop: end
      refine JE_roundF hK (i + 1) ⟨by omega, by rw [take_snoc hi2, List.any_append, hno]; simp [h2]⟩ (by omega) (stsub_consI rfl (by omega) stsub_nil) ht_nil
  · refine JC_exit ?_
    refine JE_seq_exit ?_
    refine JE_then_exit ?_
    refine JE_block_here ?_
    refine JE_seq ?_
    refine JC_seq ?_
    refine JC_region ?_
    refine JL_pd rfl (det_assign rfl) ?_
    refine JL_nil ?_
    refine JE_seq ?_
    refine JC_ret ?_
    -- stop: out
    obtain rfl : i = xs.length := by omega
    rw [List.take_length] at hno
    refine JE_out (.inl rfl) () (results1 Try.results136 (res_tmp rfl)) (by rw [idxOf_none hno]) (List.Perm.refl _) (fun _ _ => trivial)
theorem containsFuncG_j (p : Gx → Bool) (F : Nat) (fs cs : List Value) (Kf : World → Prop) (eF : ∀ args w, (callFunc F args).run Try.prog w = .ok (.enter F args) w) (a : Option Addr) (cap : Nat) (xs : List Gx) (hF : ∀ x ∈ xs, Cv Try.prog F (fs ++ [.agg #[I x.g.fr, I x.g.lo, I x.g.hi, .slice x.a x.g.feet.length x.c]] ++ cs) Kf (.bool (p x))) (hl : xs.length ≤ 9223372036854775807) :
    Cv Try.prog 123 [.slice a xs.length cap, .func (.func F) fs.toArray cs.toArray] (KAnd (KSl a xs.length cap encG xs) Kf) (.bool (xs.any p)) := by
  refine Cx_of Try.func123 rfl Try.ntmps123 rfl fun w0 M0 => ?_
  refine JC_seq ?_
  refine JC_region ?_
  refine JL_pd rfl (det_assign rfl) ?_
  refine JL_nil ?_
  refine JE_seq ?_
  refine JC_seq ?_
  refine JC_region ?_
  refine JL_pd rfl (det_move rfl) ?_
  refine JL_pd rfl (det_move rfl) ?_
  -- stop: op  2 t7 := (call (Call (value f136) (t5 t6) (29 152)))   <0 1>   125
  refine JL_step rfl rfl rfl (jo_callv rfl rfl Try.call136 rfl (indexFuncG_j p F fs cs Kf eF a cap xs hF hl)) fun _ => ?_
  refine JL_pd rfl (det_geq rfl rfl) ?_
  refine JL_pd rfl (det_assign rfl) ?_
  refine JL_nil ?_
  refine JE_seq ?_
  refine JC_ret ?_
  -- stop: out
  refine JE_out (.inl rfl) () (results1 Try.results123 (res_tmp rfl)) (by rw [show decide ((0 : Int) ≤ idxOf p xs) = xs.any p from idxOf_any]) (List.Perm.refl _) (fun _ _ => trivial)
theorem allG_1 (p : Gx → Bool) (F : Nat) (fs cs : List Value) (Kf : World → Prop) (eF : ∀ args w, (callFunc F args).run Try.prog w = .ok (.enter F args) w) (x : Gx) (hF : Cv Try.prog F (fs ++ [.agg #[I x.g.fr, I x.g.lo, I x.g.hi, .slice x.a x.g.feet.length x.c]] ++ cs) Kf (.bool (p x))) (b : Nat) :
    Cv Try.prog 124 [.agg #[I x.g.fr, I x.g.lo, I x.g.hi, .slice x.a x.g.feet.length x.c], .pointer (some ⟨b, 0, none⟩)] (KAnd (KBox b [.func (.func F) fs.toArray cs.toArray]) Kf) (.bool (!p x)) := by
  refine Cx_of Try.func124 rfl Try.ntmps124 rfl fun w0 M0 => ?_
  refine JC_seq ?_
  refine JC_region ?_
  refine JL_step rfl rfl rfl (jo_box rfl rfl) fun b2 => ?_
  refine JL_pd rfl (det_assign rfl) ?_
  refine JL_nil ?_
  refine JE_seq ?_
  refine JC_seq ?_
  refine JC_region ?_
  refine JL_dt rfl (det_loadK rfl Try.isAgg152 rfl) ?_
  refine JL_dt rfl (det_loadKA rfl Try.isAgg34 Try.sizeOf34 rfl rfl) ?_
  -- stop: op  2 t6 := (call (Call (value t4) (t5) (34)))   <0 1>   36
  refine JL_step rfl rfl rfl (jo_callv rfl rfl eF rfl (hF)) fun _ => ?_
  refine JL_pd rfl (det_not rfl) ?_
  refine JL_pd rfl (det_assign rfl) ?_
  refine JL_nil ?_
  refine JE_seq ?_
  refine JC_ret ?_
  -- stop: out
  refine JE_out (.inl rfl) () (results1 Try.results124 (res_tmp rfl)) rfl (List.Perm.refl _) (fun _ _ => trivial)
theorem allG_j (p : Gx → Bool) (F : Nat) (fs cs : List Value) (Kf : World → Prop) (eF : ∀ args w, (callFunc F args).run Try.prog w = .ok (.enter F args) w) (a : Option Addr) (cap : Nat) (xs : List Gx) (hF : ∀ x ∈ xs, Cv Try.prog F (fs ++ [.agg #[I x.g.fr, I x.g.lo, I x.g.hi, .slice x.a x.g.feet.length x.c]] ++ cs) Kf (.bool (p x))) (hl : xs.length ≤ 9223372036854775807) :
    Cv Try.prog 92 [.slice a xs.length cap, .func (.func F) fs.toArray cs.toArray] (KAnd (KSl a xs.length cap encG xs) Kf) (.bool (xs.all p)) := by
  have hcf := fun b3 : Nat => containsFuncG_j (fun x => !p x) 124 [] [.pointer (some ⟨b3, 0, none⟩)] _ Try.call124 a cap xs (fun x hx => allG_1 p F fs cs Kf eF x (hF x hx) b3) hl
  refine Cx_of Try.func92 rfl Try.ntmps92 rfl fun w0 M0 => ?_
  refine JC_seq ?_
  refine JC_region ?_
  refine JL_step rfl rfl rfl (jo_box rfl rfl) fun b3 => ?_
  refine JL_pd rfl (det_assign rfl) ?_
  refine JL_nil ?_
  refine JE_seq ?_
  refine JC_seq ?_
  refine JC_region ?_
  refine JL_pd rfl (det_move rfl) ?_
  refine JL_pd rfl (det_makeFuncE rfl rfl) ?_
  -- stop: op  2 t7 := (call (Call (value f123) (t5 t6) (29 152)))   <0 1>   36
  refine JL_keep b3 noFp ?_
  refine JL_step rfl rfl rfl (jo_callv rfl rfl Try.call123 rfl (hcf b3)) fun _ => ?_
  refine JL_pd rfl (det_not rfl) ?_
  refine JL_pd rfl (det_assign rfl) ?_
  refine JL_nil ?_
  refine JE_seq ?_
  refine JC_ret ?_
  -- stop: out
  refine JE_out (.inl rfl) () (results1 Try.results92 (res_tmp rfl)) (by simp [List.all_eq_not_any_not]) (List.Perm.refl _) (fun _ _ => trivial)
theorem few_j (x : Gx) : Cv Try.prog 93 [.agg #[I x.g.fr, I x.g.lo, I x.g.hi, .slice x.a x.g.feet.length x.c]] KTrue (.bool (few x.g)) := by
  refine Cx_of Try.func93 rfl Try.ntmps93 rfl fun w0 M0 => ?_
  refine JC_seq ?_
  refine JC_region ?_
  refine JL_step rfl rfl rfl (jo_box rfl rfl) fun b1 => ?_
  refine JL_pd rfl (det_assign rfl) ?_
  refine JL_nil ?_
  refine JE_seq ?_
  refine JC_seq ?_
  refine JC_region ?_
  refine JL_pd rfl (det_fieldAddr rfl fo_34_2) ?_
  refine JL_dt rfl (det_loadK rfl Try.isAgg26 rfl) ?_
  refine JL_pd rfl (det_len rfl Try.runUnderlying26) ?_
  refine JL_pd rfl (det_leq rfl rfl) ?_
  refine JL_pd rfl (det_assign rfl) ?_
  refine JL_nil ?_
  refine JE_seq ?_
  refine JC_ret ?_
  refine JE_out (.inl rfl) () (results1 Try.results93 (res_tmp rfl)) ?_ (List.Perm.refl _) (fun _ _ => trivial)
  (simp only [few]; congr 1; exact decide_eq_decide.2 (by omega))
theorem valid_j (x : Gx) : Cv Try.prog 94 [.agg #[I x.g.fr, I x.g.lo, I x.g.hi, .slice x.a x.g.feet.length x.c]] (KSl x.a x.g.feet.length x.c encI x.g.feet) (.bool (grOk x.g)) := by
  refine Cx_of Try.func94 rfl Try.ntmps94 rfl fun w0 M0 => ?_
  refine JC_seq ?_
  refine JC_region ?_
  refine JL_step rfl rfl rfl (jo_box rfl rfl) fun b1 => ?_
  refine JL_pd rfl (det_assign rfl) ?_
  refine JL_nil ?_
  refine JE_seq ?_
  refine JC_seq ?_
  refine JC_region ?_
  refine JL_pd rfl (det_fieldAddr rfl fo_34_0) ?_
  refine JL_dt rfl (det_loadK rfl Try.isAgg3 rfl) ?_
  refine JL_step rfl rfl rfl (jo_callv rfl rfl Try.call35 rfl (hour_j _)) fun _ => ?_
  refine JL_pd rfl (det_move rfl) ?_
  -- stop: guard 3
  refine JL_pure (p := x.g.feet.length ≤ 9223372036854775807) (by intro w h; exact h.1.bd) fun hz => ?_
  refine JL_join1 28 2 (.bool (grOk x.g)) (fun hj => ?_) ?_
  · refine JL_split (d0 := 6) rfl (fun q1 => ?_) (fun q1 => ?_)
    · refine JL_guard rfl rfl q1 ?_
      refine JL_pd rfl (det_fieldAddr rfl fo_34_0) ?_
      refine JL_guard rfl rfl q1 ?_
      refine JL_dt rfl (det_loadK rfl Try.isAgg3 rfl) ?_
      refine JL_guard rfl rfl q1 ?_
      refine JL_pd rfl (det_fieldAddr rfl fo_34_1) ?_
      refine JL_guard rfl rfl q1 ?_
      refine JL_pd rfl (det_fieldAddr rfl fo_32_0) ?_
      refine JL_guard rfl rfl q1 ?_
      refine JL_dt rfl (det_loadK rfl Try.isAgg3 rfl) ?_
      refine JL_guard rfl rfl q1 ?_
      refine JL_pd rfl (det_leq rfl rfl) ?_
      refine JL_pd rfl (det_pick_t rfl q1 rfl) ?_
      refine JL_pd rfl (det_move rfl) ?_
      refine JL_split (d0 := 14) rfl (fun q2 => ?_) (fun q2 => ?_)
      · refine JL_guard rfl rfl q2 ?_
        refine JL_pd rfl (det_fieldAddr rfl fo_34_1) ?_
        refine JL_guard rfl rfl q2 ?_
        refine JL_pd rfl (det_fieldAddr rfl fo_32_0) ?_
        refine JL_guard rfl rfl q2 ?_
        refine JL_dt rfl (det_loadK rfl Try.isAgg3 rfl) ?_
        refine JL_guard rfl rfl q2 ?_
        refine JL_pd rfl (det_fieldAddr rfl fo_34_1) ?_
        refine JL_guard rfl rfl q2 ?_
        refine JL_pd rfl (det_fieldAddr rfl fo_32_1) ?_
        refine JL_guard rfl rfl q2 ?_
        refine JL_dt rfl (det_loadK rfl Try.isAgg3 rfl) ?_
        refine JL_guard rfl rfl q2 ?_
        refine JL_pd rfl (det_leq rfl rfl) ?_
        refine JL_pd rfl (det_pick_t rfl q2 rfl) ?_
        refine JL_pd rfl (det_move rfl) ?_
        refine JL_split (d0 := 23) rfl (fun q3 => ?_) (fun q3 => ?_)
        · refine JL_guard rfl rfl q3 ?_
          refine JL_pd rfl (det_fieldAddr rfl fo_34_1) ?_
          refine JL_guard rfl rfl q3 ?_
          refine JL_pd rfl (det_fieldAddr rfl fo_32_1) ?_
          refine JL_guard rfl rfl q3 ?_
          refine JL_dt rfl (det_loadK rfl Try.isAgg3 rfl) ?_
          refine JL_guard rfl rfl q3 ?_
          refine JL_step rfl rfl rfl (jo_callv rfl rfl Try.call35 rfl (hour_j _)) fun _ => ?_
          refine JL_pd rfl (det_pick_t rfl q3 rfl) ?_
          refine JL_pd rfl (det_move rfl) ?_
          refine JL_split (d0 := 29) rfl (fun q4 => ?_) (fun q4 => ?_)
          · refine JL_guard rfl rfl q4 ?_
            refine JL_pd rfl (det_fieldAddr rfl fo_34_2) ?_
            refine JL_guard rfl rfl q4 ?_
            refine JL_dt rfl (det_loadK rfl Try.isAgg26 rfl) ?_
            refine JL_guard rfl rfl q4 ?_
            refine JL_step rfl rfl rfl (jo_callv rfl rfl Try.call59 rfl (allI_j (fun n => inI n 0 9) 109 [] [] KTrue Try.call109 (fun x => size_j x) _ _ x.g.feet (by omega))) fun _ => ?_
            refine JL_pd rfl (det_pick_t rfl q4 rfl) ?_
            refine JL_pd rfl (det_assign rfl) ?_
            exact hj (by kernel_rfl) (stsub_consB rfl (by clear hj; first | rfl | (simp only [grOk, q1, q2, q3, q4, Bool.and_true, Bool.true_and, Bool.false_and, Bool.and_false, Bool.or_true, Bool.true_or, Bool.or_false, Bool.false_or, Bool.not_true, Bool.not_false]; done) | (simp [grOk, q1, q2, q3, q4]; done) | (simp [grOk] at q1; done) | (simp [grOk] at q2; done) | (simp [grOk] at q3; done) | (simp [grOk] at q4; done) | (simp [grOk, q1, q2, q3, q4] <;> omega) | (exfalso; simp [grOk] at q1 q2 q3 q4; omega) | (simp [q2, q3, q4, grOk] at q1; done) | (simp [q1, q3, q4, grOk] at q2; done) | (simp [q1, q2, q4, grOk] at q3; done) | (simp [q1, q2, q3, grOk] at q4; done)) stsub_nil)
          · refine JL_skip rfl rfl q4 rfl ?_
            refine JL_skip rfl rfl q4 rfl ?_
            refine JL_skip rfl rfl q4 rfl ?_
            refine JL_pd rfl (det_pick_f rfl q4 rfl) ?_
            refine JL_pd rfl (det_assign rfl) ?_
            exact hj (by kernel_rfl) (stsub_consB rfl (by clear hj; first | rfl | (simp only [grOk, q1, q2, q3, q4, Bool.and_true, Bool.true_and, Bool.false_and, Bool.and_false, Bool.or_true, Bool.true_or, Bool.or_false, Bool.false_or, Bool.not_true, Bool.not_false]; done) | (simp [grOk, q1, q2, q3, q4]; done) | (simp [grOk] at q1; done) | (simp [grOk] at q2; done) | (simp [grOk] at q3; done) | (simp [grOk] at q4; done) | (simp [grOk, q1, q2, q3, q4] <;> omega) | (exfalso; simp [grOk] at q1 q2 q3 q4; omega) | (simp [q2, q3, q4, grOk] at q1; done) | (simp [q1, q3, q4, grOk] at q2; done) | (simp [q1, q2, q4, grOk] at q3; done) | (simp [q1, q2, q3, grOk] at q4; done)) stsub_nil)
        · refine JL_skip rfl rfl q3 rfl ?_
          refine JL_skip rfl rfl q3 rfl ?_
          refine JL_skip rfl rfl q3 rfl ?_
          refine JL_skip rfl rfl q3 rfl ?_
          refine JL_pd rfl (det_pick_f rfl q3 rfl) ?_
          refine JL_pd rfl (det_move rfl) ?_
          refine JL_skip rfl rfl rfl rfl ?_
          refine JL_skip rfl rfl rfl rfl ?_
          refine JL_skip rfl rfl rfl rfl ?_
          refine JL_pd rfl (det_pick_f rfl rfl rfl) ?_
          refine JL_pd rfl (det_assign rfl) ?_
          exact hj (by kernel_rfl) (stsub_consB rfl (by clear hj; first | rfl | (simp only [grOk, q1, q2, q3, Bool.and_true, Bool.true_and, Bool.false_and, Bool.and_false, Bool.or_true, Bool.true_or, Bool.or_false, Bool.false_or, Bool.not_true, Bool.not_false]; done) | (simp [grOk, q1, q2, q3]; done) | (simp [grOk] at q1; done) | (simp [grOk] at q2; done) | (simp [grOk] at q3; done) | (simp [grOk, q1, q2, q3] <;> omega) | (exfalso; simp [grOk] at q1 q2 q3; omega) | (simp [q2, q3, grOk] at q1; done) | (simp [q1, q3, grOk] at q2; done) | (simp [q1, q2, grOk] at q3; done)) stsub_nil)
      · refine JL_skip rfl rfl q2 rfl ?_
        refine JL_skip rfl rfl q2 rfl ?_
        refine JL_skip rfl rfl q2 rfl ?_
        refine JL_skip rfl rfl q2 rfl ?_
        refine JL_skip rfl rfl q2 rfl ?_
        refine JL_skip rfl rfl q2 rfl ?_
        refine JL_skip rfl rfl q2 rfl ?_
        refine JL_pd rfl (det_pick_f rfl q2 rfl) ?_
        refine JL_pd rfl (det_move rfl) ?_
        refine JL_skip rfl rfl rfl rfl ?_
        refine JL_skip rfl rfl rfl rfl ?_
        refine JL_skip rfl rfl rfl rfl ?_
        refine JL_skip rfl rfl rfl rfl ?_
        refine JL_pd rfl (det_pick_f rfl rfl rfl) ?_
        refine JL_pd rfl (det_move rfl) ?_
        refine JL_skip rfl rfl rfl rfl ?_
        refine JL_skip rfl rfl rfl rfl ?_
        refine JL_skip rfl rfl rfl rfl ?_
        refine JL_pd rfl (det_pick_f rfl rfl rfl) ?_
        refine JL_pd rfl (det_assign rfl) ?_
        exact hj (by kernel_rfl) (stsub_consB rfl (by clear hj; first | rfl | (simp only [grOk, q1, q2, Bool.and_true, Bool.true_and, Bool.false_and, Bool.and_false, Bool.or_true, Bool.true_or, Bool.or_false, Bool.false_or, Bool.not_true, Bool.not_false]; done) | (simp [grOk, q1, q2]; done) | (simp [grOk] at q1; done) | (simp [grOk] at q2; done) | (simp [grOk, q1, q2] <;> omega) | (exfalso; simp [grOk] at q1 q2; omega) | (simp [q2, grOk] at q1; done) | (simp [q1, grOk] at q2; done)) stsub_nil)
    · refine JL_skip rfl rfl q1 rfl ?_
      refine JL_skip rfl rfl q1 rfl ?_
      refine JL_skip rfl rfl q1 rfl ?_
      refine JL_skip rfl rfl q1 rfl ?_
      refine JL_skip rfl rfl q1 rfl ?_
      refine JL_skip rfl rfl q1 rfl ?_
      refine JL_pd rfl (det_pick_f rfl q1 rfl) ?_
      refine JL_pd rfl (det_move rfl) ?_
      refine JL_skip rfl rfl rfl rfl ?_
      refine JL_skip rfl rfl rfl rfl ?_
      refine JL_skip rfl rfl rfl rfl ?_
      refine JL_skip rfl rfl rfl rfl ?_
      refine JL_skip rfl rfl rfl rfl ?_
      refine JL_skip rfl rfl rfl rfl ?_
      refine JL_skip rfl rfl rfl rfl ?_
      refine JL_pd rfl (det_pick_f rfl rfl rfl) ?_
      refine JL_pd rfl (det_move rfl) ?_
      refine JL_skip rfl rfl rfl rfl ?_
      refine JL_skip rfl rfl rfl rfl ?_
      refine JL_skip rfl rfl rfl rfl ?_
      refine JL_skip rfl rfl rfl rfl ?_
      refine JL_pd rfl (det_pick_f rfl rfl rfl) ?_
      refine JL_pd rfl (det_move rfl) ?_
      refine JL_skip rfl rfl rfl rfl ?_
      refine JL_skip rfl rfl rfl rfl ?_
      refine JL_skip rfl rfl rfl rfl ?_
      refine JL_pd rfl (det_pick_f rfl rfl rfl) ?_
      refine JL_pd rfl (det_assign rfl) ?_
      exact hj (by kernel_rfl) (stsub_consB rfl (by clear hj; first | rfl | (simp only [grOk, q1, Bool.and_true, Bool.true_and, Bool.false_and, Bool.and_false, Bool.or_true, Bool.true_or, Bool.or_false, Bool.false_or, Bool.not_true, Bool.not_false]; done) | (simp [grOk, q1]; done) | (simp [grOk] at q1; done) | (simp [grOk, q1] <;> omega) | (exfalso; simp [grOk] at q1; omega)) stsub_nil)
  refine JL_nil ?_
  refine JE_seq ?_
  refine JC_ret ?_
  -- stop: out
  refine JE_out (.inl rfl) () (results1 Try.results94 (res_tmp rfl)) rfl (List.Perm.refl _) (fun _ _ => trivial)
theorem eqHs (h : Hs) : hsOk h = (inI h.lanes 0 5 && (decide (h.shoes.length = 10) && h.shoes.all fun n => inI n 0 20)) := rfl
theorem hvalid_j (x : Hx) : Cv Try.prog 91 [.agg #[I x.h.lanes, .slice x.a x.h.shoes.length x.c]] (KHx x) (.bool (hsOk x.h)) := by
  refine Cx_of Try.func91 rfl Try.ntmps91 rfl fun w0 M0 => ?_
  refine JC_seq ?_
  refine JC_region ?_
  refine JL_step rfl rfl rfl (jo_box rfl rfl) fun b1 => ?_
  refine JL_pd rfl (det_assign rfl) ?_
  refine JL_nil ?_
  refine JE_seq ?_
  refine JC_seq ?_
  refine JC_region ?_
  refine JL_pd rfl (det_fieldAddr rfl fo_28_0) ?_
  refine JL_dt rfl (det_loadK rfl Try.isAgg3 rfl) ?_
  refine JL_step rfl rfl rfl (jo_callv rfl rfl Try.call58 rfl (within_j _ _ _)) fun _ => ?_
  refine JL_pd rfl (det_move rfl) ?_
  -- stop: guard 3
  refine JL_pure (p := x.h.shoes.length ≤ 9223372036854775807) (by intro w h; exact h.1.bd) fun hz => ?_
  refine JL_join1 11 2 (.bool (inI x.h.lanes 0 5 && (decide ((x.h.shoes.length : Int) = 10) && x.h.shoes.all fun n => inI n 0 20))) (fun hj => ?_) ?_
  · refine JL_split (d0 := 6) rfl (fun q5 => ?_) (fun q5 => ?_)
    · refine JL_guard rfl rfl q5 ?_
      refine JL_pd rfl (det_fieldAddr rfl fo_28_1) ?_
      refine JL_guard rfl rfl q5 ?_
      refine JL_dt rfl (det_loadK rfl Try.isAgg26 rfl) ?_
      refine JL_guard rfl rfl q5 ?_
      refine JL_pd rfl (det_len rfl Try.runUnderlying26) ?_
      refine JL_guard rfl rfl q5 ?_
      refine JL_pd rfl (det_eql rfl rfl) ?_
      refine JL_pd rfl (det_pick_t rfl q5 rfl) ?_
      refine JL_pd rfl (det_move rfl) ?_
      refine JL_split (d0 := 12) rfl (fun q6 => ?_) (fun q6 => ?_)
      · refine JL_guard rfl rfl q6 ?_
        refine JL_pd rfl (det_fieldAddr rfl fo_28_1) ?_
        refine JL_guard rfl rfl q6 ?_
        refine JL_dt rfl (det_loadK rfl Try.isAgg26 rfl) ?_
        refine JL_guard rfl rfl q6 ?_
        refine JL_step rfl rfl rfl (jo_callv rfl rfl Try.call59 rfl (allI_j (fun n => inI n 0 20) 122 [] [] KTrue Try.call122 (fun x => pairs_j x) _ _ x.h.shoes (by omega))) fun _ => ?_
        refine JL_pd rfl (det_pick_t rfl q6 rfl) ?_
        refine JL_pd rfl (det_assign rfl) ?_
        exact hj (by kernel_rfl) (stsub_consB rfl (by clear hj; first | rfl | (simp only [q5, q6, Bool.and_true, Bool.true_and, Bool.false_and, Bool.and_false, Bool.or_true, Bool.true_or, Bool.or_false, Bool.false_or, Bool.not_true, Bool.not_false]; done) | (simp [q5, q6]; done) | (simp at q5; done) | (simp at q6; done) | (simp [q5, q6] <;> omega) | (exfalso; simp at q5 q6; omega) | (simp [q6] at q5; done) | (simp [q5] at q6; done)) stsub_nil)
      · refine JL_skip rfl rfl q6 rfl ?_
        refine JL_skip rfl rfl q6 rfl ?_
        refine JL_skip rfl rfl q6 rfl ?_
        refine JL_pd rfl (det_pick_f rfl q6 rfl) ?_
        refine JL_pd rfl (det_assign rfl) ?_
        exact hj (by kernel_rfl) (stsub_consB rfl (by clear hj; first | rfl | (simp only [q5, q6, Bool.and_true, Bool.true_and, Bool.false_and, Bool.and_false, Bool.or_true, Bool.true_or, Bool.or_false, Bool.false_or, Bool.not_true, Bool.not_false]; done) | (simp [q5, q6]; done) | (simp at q5; done) | (simp at q6; done) | (simp [q5, q6] <;> omega) | (exfalso; simp at q5 q6; omega) | (simp [q6] at q5; done) | (simp [q5] at q6; done)) stsub_nil)
    · refine JL_skip rfl rfl q5 rfl ?_
      refine JL_skip rfl rfl q5 rfl ?_
      refine JL_skip rfl rfl q5 rfl ?_
      refine JL_skip rfl rfl q5 rfl ?_
      refine JL_pd rfl (det_pick_f rfl q5 rfl) ?_
      refine JL_pd rfl (det_move rfl) ?_
      refine JL_skip rfl rfl rfl rfl ?_
      refine JL_skip rfl rfl rfl rfl ?_
      refine JL_skip rfl rfl rfl rfl ?_
      refine JL_pd rfl (det_pick_f rfl rfl rfl) ?_
      refine JL_pd rfl (det_assign rfl) ?_
      exact hj (by kernel_rfl) (stsub_consB rfl (by clear hj; first | rfl | (simp only [q5, Bool.and_true, Bool.true_and, Bool.false_and, Bool.and_false, Bool.or_true, Bool.true_or, Bool.or_false, Bool.false_or, Bool.not_true, Bool.not_false]; done) | (simp [q5]; done) | (simp at q5; done) | (simp [q5] <;> omega) | (exfalso; simp at q5; omega)) stsub_nil)
  refine JL_nil ?_
  refine JE_seq ?_
  refine JC_ret ?_
  -- stop: out
  refine JE_out (.inl rfl) () (results1 Try.results91 (res_tmp rfl)) (by rw [eqHs, show decide ((x.h.shoes.length : Int) = 10) = decide (x.h.shoes.length = 10) from decide_eq_decide.2 (by omega)]) (List.Perm.refl _) (fun _ _ => trivial)
set_option maxRecDepth 100000 in
theorem CheckGroups_j (x : Hx) (a : Option Addr) (c : Nat) (xs : List Gx) : Cv Try.prog 61 [.agg #[I x.h.lanes, .slice x.a x.h.shoes.length x.c], .slice a xs.length c] (KAnd (KHx x) (KGs a c xs)) (I (fault x.h (gs xs))) := by
  refine Cx_of Try.func61 rfl Try.ntmps61 rfl fun w0 M0 => ?_
  refine JC_seq ?_
  refine JC_region ?_
  refine JL_step rfl rfl rfl (jo_box rfl rfl) fun b2 => ?_
  refine JL_pd rfl (det_assign rfl) ?_
  refine JL_nil ?_
  refine JE_seq ?_
  refine JC_seq ?_
  refine JC_block ?_
  refine JC_seq ?_
  refine JC_region ?_
  refine JL_dt rfl (det_loadKA rfl Try.isAgg28 Try.sizeOf28 rfl rfl) ?_
  -- stop: op  1 t7 := (call (Call (value f91) (t6) (28)))   <0>   63
  refine JL_pure (p := xs.length ≤ 9223372036854775807) (by intro w h; exact h.2.1.1.bd) fun hz => ?_
  have e1 : (gs xs).all few = xs.all fun x => few x.g := by simp [gs]; rfl
  have e2 : (gs xs).all grOk = xs.all fun x => grOk x.g := by simp [gs]; rfl
  have e3 : (gs xs).length = xs.length := List.length_map _
  have e4 : fault x.h (gs xs) = if hsOk x.h = false then 1 else if 8 < xs.length ∨ (xs.all fun x => few x.g) = false then 3 else if (xs.all fun x => grOk x.g) = false then 1 else 0 := by unfold fault; rw [e1, e2, e3]
  refine JL_step rfl rfl rfl (jo_callv rfl rfl Try.call91 rfl (hvalid_j x)) fun _ => ?_
  refine JL_pd rfl (det_not rfl) ?_
  refine JL_pd rfl (det_assign rfl) ?_
  refine JL_nil ?_
  refine JE_seq ?_
  -- stop: cond
  refine JC_cond rfl (fun h1 => ?_) (fun h1 => ?_)
  · simp only [Bool.not_eq_true'] at h1
    refine JC_seq ?_
    refine JC_region ?_
    refine JL_pd rfl (det_assign rfl) ?_
    refine JL_nil ?_
    refine JE_seq ?_
    refine JC_ret ?_
    refine JE_block_ret ?_
    refine JE_seq_ret ?_
    -- stop: out
    refine JE_out (.inl rfl) () (results1 Try.results61 (res_tmp rfl)) (by rw [e4, if_pos h1]) (List.Perm.refl _) (fun _ _ => trivial)
  · simp only [Bool.not_eq_false'] at h1
    refine JC_seq ?_
    refine JC_region ?_
    refine JL_pd rfl (det_move rfl) ?_
    refine JL_pd rfl (det_len rfl Try.runUnderlying29) ?_
    refine JL_pd rfl (det_gtr rfl rfl) ?_
    refine JL_pd rfl (det_move rfl) ?_
    -- stop: guard 3
    refine JL_join1 5 9 (.bool (decide ((8 : Int) < (xs.length : Int)) || !(xs.all fun x => few x.g))) (fun hj => ?_) ?_
    · refine JL_split (d0 := 13) rfl (fun q7 => ?_) (fun q7 => ?_)
      · refine JL_skip rfl rfl q7 rfl ?_
        refine JL_skip rfl rfl q7 rfl ?_
        refine JL_skip rfl rfl q7 rfl ?_
        refine JL_pd rfl (det_pick_t rfl q7 rfl) ?_
        refine JL_pd rfl (det_assign rfl) ?_
        exact hj (by kernel_rfl) (stsub_consB rfl (by clear hj; first | rfl | (simp only [q7, Bool.and_true, Bool.true_and, Bool.false_and, Bool.and_false, Bool.or_true, Bool.true_or, Bool.or_false, Bool.false_or, Bool.not_true, Bool.not_false]; done) | (simp [q7]; done) | (simp at q7; done) | (simp [q7] <;> omega) | (exfalso; simp at q7; omega)) stsub_nil)
      · refine JL_guard rfl rfl q7 ?_
        refine JL_pd rfl (det_move rfl) ?_
        refine JL_guard rfl rfl q7 ?_
        refine JL_step rfl rfl rfl (jo_callv rfl rfl Try.call92 rfl (allG_j (fun x => few x.g) 93 [] [] KTrue Try.call93 a c xs (fun x _ => few_j x) (by omega))) fun _ => ?_
        refine JL_guard rfl rfl q7 ?_
        refine JL_pd rfl (det_not rfl) ?_
        refine JL_pd rfl (det_pick_f rfl q7 rfl) ?_
        refine JL_pd rfl (det_assign rfl) ?_
        exact hj (by kernel_rfl) (stsub_consB rfl (by clear hj; first | rfl | (simp only [q7, Bool.and_true, Bool.true_and, Bool.false_and, Bool.and_false, Bool.or_true, Bool.true_or, Bool.or_false, Bool.false_or, Bool.not_true, Bool.not_false]; done) | (simp [q7]; done) | (simp at q7; done) | (simp [q7] <;> omega) | (exfalso; simp at q7; omega)) stsub_nil)
    refine JL_nil ?_
    refine JE_seq ?_
    -- stop: cond
    refine JC_cond rfl (fun h2 => ?_) (fun h2 => ?_)
    · simp only [Bool.or_eq_true, decide_eq_true_eq, Bool.not_eq_true'] at h2
      refine JC_seq ?_
      refine JC_region ?_
      refine JL_pd rfl (det_assign rfl) ?_
      refine JL_nil ?_
      refine JE_seq ?_
      refine JC_ret ?_
      refine JE_block_ret ?_
      refine JE_seq_ret ?_
      -- stop: out
      refine JE_out (.inl rfl) () (results1 Try.results61 (res_tmp rfl)) (by rw [e4, if_neg (by rw [h1]; decide), if_pos (h2.imp (by omega) id)]) (List.Perm.refl _) (fun _ _ => trivial)
    · simp only [Bool.or_eq_false_iff, decide_eq_false_iff_not, Bool.not_eq_false'] at h2
      refine JC_seq ?_
      refine JC_region ?_
      refine JL_pd rfl (det_move rfl) ?_
      refine JL_step rfl rfl rfl (jo_callv rfl rfl Try.call92 rfl (allG_j (fun x => grOk x.g) 94 [] [] (KFt xs) Try.call94 a c xs (fun x hx => (valid_j x).mono (fun w h => h x hx) (fun _ _ h => h)) (by omega))) fun _ => ?_
      refine JL_pd rfl (det_not rfl) ?_
      refine JL_pd rfl (det_assign rfl) ?_
      refine JL_nil ?_
      refine JE_seq ?_
      -- stop: cond
      refine JC_cond rfl (fun h3 => ?_) (fun h3 => ?_)
      · simp only [Bool.not_eq_true'] at h3
        refine JC_seq ?_
        refine JC_region ?_
        refine JL_pd rfl (det_assign rfl) ?_
        refine JL_nil ?_
        refine JE_seq ?_
        refine JC_ret ?_
        refine JE_block_ret ?_
        refine JE_seq_ret ?_
        -- stop: out
        refine JE_out (.inl rfl) () (results1 Try.results61 (res_tmp rfl)) (by rw [e4, if_neg (by rw [h1]; decide), if_neg (by rw [h2.2]; simp; omega), if_pos h3]) (List.Perm.refl _) (fun _ _ => trivial)
      · simp only [Bool.not_eq_false'] at h3
        refine JC_skip ?_
        refine JE_block ?_
        refine JE_seq ?_
        refine JC_seq ?_
        refine JC_region ?_
        refine JL_pd rfl (det_assign rfl) ?_
        refine JL_nil ?_
        refine JE_seq ?_
        refine JC_ret ?_
        -- stop: out
        refine JE_out (.inl rfl) () (results1 Try.results61 (res_tmp rfl)) (by rw [e4, if_neg (by rw [h1]; decide), if_neg (by rw [h2.2]; simp; omega), if_neg (by rw [h3]; decide)]) (List.Perm.refl _) (fun _ _ => trivial)
end Go.Proofs.Ythpkgabckklojaa.En

/- Walks of lend: hours, and a house at work. -/
namespace Go.Proofs.Ythpkgabckklojaa.En
open Go.RowKit Go.Shelf

theorem has_j (x : Gx) (t : Int) : Cv Try.prog 108 [.agg #[I x.g.fr, I x.g.lo, I x.g.hi, .slice x.a x.g.feet.length x.c], I t] KTrue (.bool (stays x.g t)) := by
  refine Cx_of Try.func108 rfl Try.ntmps108 rfl fun w0 M0 => ?_
  refine JC_seq ?_
  refine JC_region ?_
  refine JL_step rfl rfl rfl (jo_box rfl rfl) fun b2 => ?_
  refine JL_pd rfl (det_assign rfl) ?_
  refine JL_nil ?_
  refine JE_seq ?_
  refine JC_seq ?_
  refine JC_region ?_
  refine JL_pd rfl (det_move rfl) ?_
  refine JL_pd rfl (det_fieldAddr rfl fo_34_0) ?_
  refine JL_dt rfl (det_loadK rfl Try.isAgg3 rfl) ?_
  refine JL_pd rfl (det_fieldAddr rfl fo_34_1) ?_
  refine JL_pd rfl (det_fieldAddr rfl fo_32_1) ?_
  refine JL_dt rfl (det_loadK rfl Try.isAgg3 rfl) ?_
  refine JL_step rfl rfl rfl (jo_callv rfl rfl Try.call58 rfl (within_j _ _ _)) fun _ => ?_
  refine JL_pd rfl (det_assign rfl) ?_
  refine JL_nil ?_
  refine JE_seq ?_
  refine JC_ret ?_
  refine JE_out (.inl rfl) () (results1 Try.results108 (res_tmp rfl)) ?_ (List.Perm.refl _) (fun _ _ => trivial)
  rfl
abbrev Cell := Int × Int
def ekC (c : Cell) : Value := .agg #[I c.1, I c.2]
theorem chkC_run (n : Nat) (e : Bool) (a : Cell) (w : World) : (Instr.checkKey e (n + 2) 128 (ekC a)).run Try.prog w = .ok () w := by
  unfold ekC
  simp [Instr.checkKey, go_sem]
theorem goodC : GoodKey Try.prog 128 ekC := by
  refine GoodKey.of_struct Try.underlying128 (fun b k w => chkC_run 9998 b k w) (fun a b w => ?_) (fun k => ?_) (fun a b h => ?_)
  · show (Op.equalIn 10000 128 (.agg #[I a.1, I a.2]) (.agg #[I b.1, I b.2])).run Try.prog w = _
    rw [eqa_128]
    congr 1; exact decide_eq_decide.2 Prod.ext_iff.symm
  · show Instr.sameBits (9999 + 1) _ _ = true
    simp [ekC, Instr.sameBits]
  · simp [ekC] at h; exact Prod.ext_iff.2 h
/-- Who has a lane at an hour, as a map. -/
def tkM (t : Cell → Bool) : Cell → Option Bool := fun c => if t c = true then some true else none
def addT (t : Cell → Bool) (lane : Int) (p : List Int) : Cell → Bool := fun c => t c || (decide (lane = c.1) && decide (c.2 ∈ p))
theorem addT_nil (t : Cell → Bool) (lane : Int) : addT t lane [] = t := by funext c; simp [addT]
theorem addT_snoc (t : Cell → Bool) (lane : Int) (p : List Int) (x : Int) : upd (tkM (addT t lane p)) (lane, x) true = tkM (addT t lane (p ++ [x])) := by
  funext c
  obtain ⟨c1, c2⟩ := c
  unfold upd tkM addT
  by_cases h1 : lane = c1 <;> by_cases h2 : c2 = x
  · subst h1 h2; simp
  · subst h1
    rw [if_neg (fun e => h2 (Prod.ext_iff.1 e).2)]
    simp [h2]
  · rw [if_neg (fun e => h1 (Prod.ext_iff.1 e).1.symm)]; simp [h1]
  · rw [if_neg (fun e => h1 (Prod.ext_iff.1 e).1.symm)]; simp [h1]
theorem addT_hours (t : Cell → Bool) (lane : Int) (g : Gr) : addT t lane (hoursL g) = fun c => t c || (decide (lane = c.1) && stays g c.2) := by
  funext c
  unfold addT
  congr 2
  rw [Bool.eq_iff_iff, decide_eq_true_eq]; exact mem_hours
theorem tkM_get (t : Cell → Bool) (c : Cell) : (tkM t c).getD false = t c := by
  unfold tkM
  cases t c <;> rfl
theorem hours_get (g : Gr) (i : Nat) (h : i < (g.hi + 1 - g.fr).toNat) : (hoursL g).take (i + 1) = (hoursL g).take i ++ [g.fr + (i : Int)] := by
  have hl : i < (hoursL g).length := by rw [hoursL, List.length_map, List.length_range]; exact h
  rw [List.take_succ_eq_append_getElem hl]
  congr 2
  simp [hoursL]
theorem hours_all (g : Gr) {i : Nat} (h : (g.hi + 1 - g.fr).toNat ≤ i) : (hoursL g).take i = hoursL g := List.take_of_length_le (by rw [hoursL, List.length_map, List.length_range]; exact h)
theorem hours_j (x : Gx) : Cr Try.prog 65 [.agg #[I x.g.fr, I x.g.lo, I x.g.hi, .slice x.a x.g.feet.length x.c]] KTrue (fun b : Nat => .func (.func 107) #[] #[pt b]) (fun b => KBox b [I x.g.fr, I x.g.lo, I x.g.hi, .slice x.a x.g.feet.length x.c]) := by
  refine Cx_of Try.func65 rfl Try.ntmps65 rfl fun w0 M0 => ?_
  refine JC_seq ?_
  refine JC_region ?_
  refine JL_step rfl rfl rfl (jo_box rfl rfl) fun b1 => ?_
  refine JL_pd rfl (det_assign rfl) ?_
  refine JL_nil ?_
  refine JE_seq ?_
  refine JC_seq ?_
  refine JC_region ?_
  refine JL_keep b1 noFp ?_
  refine JL_pd rfl (det_makeFuncE rfl rfl) ?_
  refine JL_pd rfl (det_assign rfl) ?_
  refine JL_nil ?_
  refine JE_seq ?_
  refine JC_ret ?_
  -- stop: out
  refine JE_out (.inl rfl) b1 (results1 Try.results65 (res_tmp rfl)) rfl (List.Perm.refl _) (fun w h => h.1)
set_option maxRecDepth 100000 in
theorem hours_it (x : Gx) (b : Nat) (hV : VGr x.g) : Iter Try.prog 107 [pt b] encI (KBox b [I x.g.fr, I x.g.lo, I x.g.hi, .slice x.a x.g.feet.length x.c]) (hoursL x.g) := by
  intro l Rel J Jx c hJ hy
  have v1 := hV.f0
  have v2 := hV.fl
  have v3 := hV.lh
  have v4 := hV.h1
  refine Cx_of Try.func107 rfl Try.ntmps107 rfl fun w0 M0 => ?_
  refine JC_seq ?_
  refine JC_region ?_
  refine JL_pd rfl (det_fieldAddr rfl fo_34_0) ?_
  refine JL_dt rfl (det_loadK rfl Try.isAgg3 rfl) ?_
  refine JL_pd rfl (det_assign rfl) ?_
  refine JL_nil ?_
  refine JE_seq ?_
  refine JC_block ?_
  -- stop: loop
  refine JC_loopF (γ := Nat × Chunk) (fun q => q.1 ≤ (x.g.hi + 1 - x.g.fr).toNat ∧ J ((hoursL x.g).take q.1) q.2) (fun q => [(3, I (x.g.fr + q.1))]) (fun q => [q.2]) (fun q => (x.g.hi + 1 - x.g.fr).toNat - q.1) (0, c) ⟨Nat.zero_le _, by simpa using hJ⟩ (stsub_consI rfl (by simp) stsub_nil) (ht_cons ht_nil) ?_
  rintro ⟨i, c'⟩ ⟨hi, hJi⟩ K hK
  dsimp only [List.cons_append, List.nil_append] at hi hJi ⊢
  refine JC_seq ?_
  refine JC_seq ?_
  refine JC_region ?_
  refine JL_pd rfl (det_move rfl) ?_
  refine JL_pd rfl (det_fieldAddr rfl fo_34_1) ?_
  refine JL_pd rfl (det_fieldAddr rfl fo_32_1) ?_
  refine JL_dt rfl (det_loadK rfl Try.isAgg3 rfl) ?_
  refine JL_pd rfl (det_leq rfl rfl) ?_
  refine JL_nil ?_
  refine JE_seq ?_
  -- stop: cond
  refine JC_if rfl (fun h1 => ?_) (fun h1 => ?_)
  · have hi2 : i < (x.g.hi + 1 - x.g.fr).toNat := by omega
    have hsn := hours_get x.g i hi2
    have hpx : (hoursL x.g).take i ++ [x.g.fr + (i : Int)] <+: hoursL x.g := by rw [← hsn]; exact List.take_prefix _ _
    refine JC_skip ?_
    refine JE_seq ?_
    refine JC_seq ?_
    refine JC_block ?_
    refine JC_seq ?_
    refine JC_region ?_
    refine JL_pd rfl (det_move rfl) ?_
    refine JL_pd rfl (det_move rfl) ?_
    -- stop: op  2 t15 := (call (Call (value t13) (t14) (3)))   <0 1>   80
    refine JL_step rfl rfl rfl (jo_yield c' rfl rfl rfl (hy _ (x.g.fr + (i : Int)) c' hJi hpx)) fun y => ?_
    refine JL_pd rfl (det_not rfl) ?_
    refine JL_nil ?_
    refine JE_seq ?_
    -- stop: cond
    refine JC_pure (p := if y.1 = true then J _ y.2 else Jx _ y.2) (fun w h => h.1) fun hq => ?_
    refine JC_cond rfl (fun k3 => ?_) (fun k3 => ?_)
    · simp only [Bool.not_eq_true'] at k3
      rw [k3, if_neg (by decide)] at hq
      refine JC_ret ?_
      refine JE_block_ret ?_
      refine JE_seq_ret ?_
      refine JE_then_ret ?_
      refine JE_block_ret ?_
      -- stop: out
      refine JE_out (.inl rfl) (_, false, (hoursL x.g).take i ++ [x.g.fr + (i : Int)], y.2) (results0 Try.results107 ) rfl pick_perm (fun w h => by simp only [Bool.false_eq_true, if_false]; exact ⟨hpx, hq⟩)
    · simp only [Bool.not_eq_false'] at k3
      rw [k3, if_pos rfl] at hq
      refine JC_skip ?_
      refine JE_block ?_
      refine JE_seq ?_
      refine JC_region ?_
      refine JL_pd rfl (det_move rfl) ?_
      refine JL_pd rfl (det_add rfl rfl ⟨by omega, by omega⟩) ?_
      refine JL_pd rfl (det_assign rfl) ?_
      refine JL_nil ?_
      -- stop: end
      refine JE_roundF hK (i + 1, y.2) ⟨by simp only; omega, by simp only; rw [hsn]; exact hq⟩ (by simp only; omega) (stsub_consI rfl (by simp only; omega) stsub_nil) (ht_cons ht_nil)
  · refine JC_exit ?_
    refine JE_seq_exit ?_
    refine JE_then_exit ?_
    refine JE_block_here ?_
    -- stop: out
    rw [hours_all x.g (by omega)] at hJi
    refine JE_out (.inr rfl) (_, true, [], c') (results0 Try.results107 ) rfl pick_perm (fun w h => by rw [if_pos rfl]; exact hJi)

/-- A house at work, as cells. -/
def wkC (x : Hx) (a : Option Addr) (n c mb : Nat) : List Value := [I x.h.lanes, .slice x.a x.h.shoes.length x.c, .slice a n c, .map (some mb)]
theorem work_je (x : Hx) (a : Option Addr) (c : Nat) (xs : List Gx) (h : fault x.h (gs xs) ≠ 0) : Cv Try.prog 25 [.agg #[I x.h.lanes, .slice x.a x.h.shoes.length x.c], .slice a xs.length c] (KAnd (KHx x) (KGs a c xs)) (.tuple #[.pointer none, I (fault x.h (gs xs))]) := by
  refine Cx_of Try.func25 rfl Try.ntmps25 rfl fun w0 M0 => ?_
  refine JC_seq ?_
  refine JC_region ?_
  refine JL_step rfl rfl rfl (jo_box rfl rfl) fun b2 => ?_
  refine JL_pd rfl (det_assign rfl) ?_
  refine JL_pd rfl (det_assign rfl) ?_
  refine JL_nil ?_
  refine JE_seq ?_
  refine JC_seq ?_
  refine JC_seq ?_
  refine JC_region ?_
  refine JL_dt rfl (det_loadKA rfl Try.isAgg28 Try.sizeOf28 rfl rfl) ?_
  refine JL_pd rfl (det_move rfl) ?_
  refine JL_step rfl rfl rfl (jo_callv rfl rfl Try.call61 rfl (CheckGroups_j x a c xs)) fun _ => ?_
  refine JL_pd rfl (det_assign rfl) ?_
  refine JL_nil ?_
  refine JE_seq ?_
  refine JC_seq ?_
  refine JC_region ?_
  refine JL_pd rfl (det_move rfl) ?_
  refine JL_pd rfl (det_neq rfl rfl) ?_
  refine JL_nil ?_
  refine JE_seq ?_
  -- stop: cond
  refine JC_ifn rfl (fun h1 => ?_) (fun h1 => ?_)
  · refine JC_seq ?_
    refine JC_region ?_
    refine JL_pd rfl (det_move rfl) ?_
    refine JL_pd rfl (det_assign rfl) ?_
    refine JL_pd rfl (det_assign rfl) ?_
    refine JL_nil ?_
    refine JE_seq ?_
    refine JC_ret ?_
    refine JE_seq_ret ?_
    -- stop: out
    refine JE_out (.inl rfl) () (results2 Try.results25 (res_tmp rfl) (res_tmp rfl)) rfl (List.Perm.refl _) (fun _ _ => trivial)
  · exact absurd h1 h
set_option maxRecDepth 100000 in
theorem work_jo (x : Hx) (a : Option Addr) (c : Nat) (xs : List Gx) (h : fault x.h (gs xs) = 0) : Cx Try.prog 25 [.agg #[I x.h.lanes, .slice x.a x.h.shoes.length x.c], .slice a xs.length c] [] (KAnd (KHx x) (KGs a c xs)) (fun q : Nat × Nat => .tuple #[pt q.1, I 0]) (fun q => [mp q.2 ekC vB (tkM fun _ => false)]) (fun q => KBox q.1 (wkC x a xs.length c q.2)) := by
  refine Cx_of Try.func25 rfl Try.ntmps25 rfl fun w0 M0 => ?_
  refine JC_seq ?_
  refine JC_region ?_
  refine JL_step rfl rfl rfl (jo_box rfl rfl) fun b2 => ?_
  refine JL_pd rfl (det_assign rfl) ?_
  refine JL_pd rfl (det_assign rfl) ?_
  refine JL_nil ?_
  refine JE_seq ?_
  refine JC_seq ?_
  refine JC_seq ?_
  refine JC_region ?_
  refine JL_dt rfl (det_loadKA rfl Try.isAgg28 Try.sizeOf28 rfl rfl) ?_
  refine JL_pd rfl (det_move rfl) ?_
  refine JL_step rfl rfl rfl (jo_callv rfl rfl Try.call61 rfl (CheckGroups_j x a c xs)) fun _ => ?_
  refine JL_pd rfl (det_assign rfl) ?_
  refine JL_nil ?_
  refine JE_seq ?_
  refine JC_seq ?_
  refine JC_region ?_
  refine JL_pd rfl (det_move rfl) ?_
  refine JL_pd rfl (det_neq rfl rfl) ?_
  refine JL_nil ?_
  refine JE_seq ?_
  -- stop: cond
  refine JC_ifn rfl (fun h1 => ?_) (fun h1 => ?_)
  · exact absurd h h1
  · refine JC_skip ?_
    refine JE_seq ?_
    refine JC_seq ?_
    refine JC_region ?_
    refine JL_dt rfl (det_loadKA rfl Try.isAgg28 Try.sizeOf28 rfl rfl) ?_
    refine JL_pd rfl (det_move rfl) ?_
    refine JL_step rfl rfl rfl (jo_makeMap ekC vB) fun b15 => ?_
    refine JL_pd rfl (det_build rfl (bld_118_0_1_2 _ _ _ _ _ _ _ _)) ?_
    refine JL_step rfl rfl rfl (jo_box rfl rfl) fun b17 => ?_
    refine JL_pd rfl (det_assign rfl) ?_
    refine JL_pd rfl (det_assign rfl) ?_
    refine JL_nil ?_
    refine JE_seq ?_
    refine JC_ret ?_
    -- stop: out
    refine JE_keep b17 noFp ?_
    refine JE_out (.inl rfl) (b17, b15) (results2 Try.results25 (res_tmp rfl) (res_tmp rfl)) rfl (by exact List.Perm.refl _) (fun w h => h.1)
set_option maxRecDepth 100000 in
theorem take_j (x : Gx) (b mb : Nat) (hx : Hx) (a : Option Addr) (n c : Nat) (t : Cell → Bool) (lane : Int) (hV : VGr x.g) : Cx Try.prog 30 [pt b, .agg #[I x.g.fr, I x.g.lo, I x.g.hi, .slice x.a x.g.feet.length x.c], I lane] [mp mb ekC vB (tkM t)] (KBox b (wkC hx a n c mb)) (fun _ : Unit => .tuple #[]) (fun _ => [mp mb ekC vB (tkM (addT t lane (hoursL x.g)))]) (fun _ => KTrue) := by
  unfold wkC
  refine Cx_of Try.func30 rfl Try.ntmps30 rfl fun w0 M0 => ?_
  refine JC_seq ?_
  refine JC_region ?_
  refine JL_step rfl rfl rfl (jo_box rfl rfl) fun b3 => ?_
  refine JL_step rfl rfl rfl (jo_box rfl rfl) fun b4 => ?_
  refine JL_step rfl rfl rfl (jo_box rfl rfl) fun b5 => ?_
  refine JL_nil ?_
  refine JE_seq ?_
  refine JC_seq ?_
  refine JC_region ?_
  refine JL_dt rfl (det_loadKA rfl Try.isAgg34 Try.sizeOf34 rfl rfl) ?_
  refine JL_step rfl rfl rfl (jo_call rfl rfl Try.call65 rfl (hours_j x)) fun x8 => ?_
  refine JL_nil ?_
  refine JE_seq ?_
  refine JC_block ?_
  -- stop: rangeFunc
  have hit := hours_it x x8 hV
  refine JC_rangeI (γ := Unit × List Int) (β := Nat) rfl rfl rfl rfl Try.call107 hit (perm1 (mp mb ekC vB (tkM t))) (fun w _ h => h.1) (fun _ => rfl) ?_
    (fun p q => q.2 = p) (fun _ _ _ => False) (fun q => [mp mb ekC vB (tkM (addT t lane q.2))]) ((), []) rfl (by rw [addT_nil])
    (fun x t => [(6, I x), (3, pt b3), (5, pt b5)]) (fun _ _ => []) ?_ ?_ ?_ ?_
  · show ∀ p ∈ [9], p < 17
    decide
  · intro l' x W K0 hK0
    refine JC_region ?_
    refine JL_pd rfl (det_assign rfl) ?_
    refine JL_nil ?_
    -- stop: end
    exact JE_asg (hK0 0) (stsub_cons rfl (stsub_cons rfl (stsub_cons rfl stsub_nil))) hsub_nil (fun _ h => trivial)
  · rintro l' p x ⟨_, q⟩ t W K1 QX hq hpx hK1 _
    obtain rfl : q = p := hq
    refine JC_block ?_
    refine JC_draw [7] (by kernel_rfl) ?_
    refine JA_dt (i := 0) rfl (by kernel_rfl) (by kernel_rfl) rfl rfl (det_loadK rfl Try.isAgg65 rfl) ?_
    refine JA_pd (i := 1) rfl (by kernel_rfl) rfl rfl (det_nilCheck rfl) ?_
    refine JA_pd (i := 2) rfl (by kernel_rfl) rfl rfl (det_fieldAddr rfl fo_118_2) ?_
    refine JA_dt (i := 3) rfl (by kernel_rfl) (by kernel_rfl) rfl rfl (det_loadK rfl Try.isAgg116 rfl) ?_
    refine JA_dt (i := 4) rfl (by kernel_rfl) (by kernel_rfl) rfl rfl (det_loadK rfl Try.isAgg3 rfl) ?_
    refine JA_pd (i := 5) rfl (by kernel_rfl) rfl rfl (det_move rfl) ?_
    refine JA_pd (i := 6) rfl (by kernel_rfl) rfl rfl (det_build rfl (bld_128_0_1 _ _)) ?_
    refine JA_tail (i := 7) (by kernel_rfl) rfl rfl rfl rfl (jo_mapUpdate (ek := ekC) (ev := vB) (lane, x) true (.inl rfl) rfl rfl rfl goodC Try.underlying116) fun _ => ?_
    refine JT_done (by kernel_rfl) ?_
    refine JE_block ?_
    -- stop: end
    exact JE_next (fun st' R' a' W' => hK1 ((), q ++ [x]) rfl st' R' a' W') (by rw [← addT_snoc]; exact hsub_cons hsub_nil)
  · rintro ⟨_, q⟩ hq
    obtain rfl : q = hoursL x.g := hq
    refine JE_block ?_
    -- stop: out
    refine JE_out (.inr rfl) () (results0 Try.results30 ) rfl pick_perm (fun _ _ => trivial)
  · rintro cd p q _ h
    exact h.elim
set_option maxRecDepth 100000 in
theorem free_j (x : Gx) (b mb : Nat) (hx : Hx) (a : Option Addr) (n c : Nat) (t : Cell → Bool) (lane later : Int) (hV : VGr x.g) (h0 : 0 ≤ later) (h1 : later ≤ 1000) : Cv Try.prog 60 [pt b, .agg #[I x.g.fr, I x.g.lo, I x.g.hi, .slice x.a x.g.feet.length x.c], I lane, I later] (KAnd (KMap mb ekC vB (tkM t)) (KBox b (wkC hx a n c mb))) (.bool (freeW t x.g lane later)) := by
  unfold wkC
  have v1 := hV.f0
  have v2 := hV.fl
  have v3 := hV.lh
  have v4 := hV.h1
  refine Cx_of Try.func60 rfl Try.ntmps60 rfl fun w0 M0 => ?_
  refine JC_seq ?_
  refine JC_region ?_
  refine JL_step rfl rfl rfl (jo_box rfl rfl) fun b4 => ?_
  refine JL_step rfl rfl rfl (jo_box rfl rfl) fun b5 => ?_
  refine JL_step rfl rfl rfl (jo_box rfl rfl) fun b6 => ?_
  refine JL_step rfl rfl rfl (jo_box rfl rfl) fun b7 => ?_
  refine JL_step rfl rfl rfl (jo_alloc0 Try.zeroValue4 rfl) fun b8 => ?_
  refine JL_nil ?_
  refine JE_seq ?_
  refine JC_seq ?_
  refine JC_seq ?_
  refine JC_region ?_
  refine JL_dt rfl (det_loadKA rfl Try.isAgg34 Try.sizeOf34 rfl rfl) ?_
  refine JL_step rfl rfl rfl (jo_call rfl rfl Try.call65 rfl (hours_j x)) fun x11 => ?_
  refine JL_nil ?_
  refine JE_seq ?_
  refine JC_block ?_
  -- stop: rangeFunc
  have hit := hours_it x x11 hV
  refine JC_keep b4 noFp ?_
  refine JC_keep b6 noFp ?_
  refine JC_keep b7 noFp ?_
  refine JC_rangeI (γ := Bool) (β := Nat) rfl rfl rfl rfl Try.call107 hit (perm1 (bx b8 [.bool false])) (fun w _ h => h.2.2.2.1) (fun _ => rfl) ?_
    (fun p v => v = false ∧ ∀ y ∈ p, t (lane, y + later) = false) (fun cd p v => cd = .ret ∧ v = false ∧ ∃ y ∈ p, t (lane, y + later) = true) (fun v => [bx b8 [.bool v]]) false ⟨rfl, by simp⟩ rfl
    (fun x t => [(9, I x), (4, pt b4), (6, pt b6), (7, pt b7), (8, pt b8)]) (fun _ _ => []) ?_ ?_ ?_ ?_
  · show ∀ p ∈ [12], p < 23
    decide
  · intro l' x W K0 hK0
    refine JC_region ?_
    refine JL_pd rfl (det_assign rfl) ?_
    refine JL_nil ?_
    -- stop: end
    exact JE_asg (hK0 0) (stsub_cons rfl (stsub_cons rfl (stsub_cons rfl (stsub_cons rfl (stsub_cons rfl stsub_nil))))) hsub_nil (fun _ h => trivial)
  · rintro l' p y v t' W K1 QX ⟨rfl, hno⟩ hpx hK1 hX
    have hy := inI_iff.1 (mem_hours.1 (hpx.subset (by simp) : y ∈ hoursL x.g))
    refine JC_block ?_
    refine JC_seq ?_
    refine JC_draw [] (by kernel_rfl) ?_
    refine JA_dt (i := 0) rfl (by kernel_rfl) (by kernel_rfl) rfl rfl (det_loadK rfl Try.isAgg65 rfl) ?_
    refine JA_pd (i := 1) rfl (by kernel_rfl) rfl rfl (det_nilCheck rfl) ?_
    refine JA_pd (i := 2) rfl (by kernel_rfl) rfl rfl (det_fieldAddr rfl fo_118_2) ?_
    refine JA_dt (i := 3) rfl (by kernel_rfl) (by kernel_rfl) rfl rfl (det_loadK rfl Try.isAgg116 rfl) ?_
    refine JA_dt (i := 4) rfl (by kernel_rfl) (by kernel_rfl) rfl rfl (det_loadK rfl Try.isAgg3 rfl) ?_
    refine JA_pd (i := 5) rfl (by kernel_rfl) rfl rfl (det_move rfl) ?_
    refine JA_dt (i := 6) rfl (by kernel_rfl) (by kernel_rfl) rfl rfl (det_loadK rfl Try.isAgg3 rfl) ?_
    refine JA_pd (i := 7) rfl (by kernel_rfl) rfl rfl (det_add rfl rfl ⟨by omega, by omega⟩) ?_
    refine JA_pd (i := 8) rfl (by kernel_rfl) rfl rfl (det_build rfl (bld_128_0_1 _ _)) ?_
    refine JA_dt (i := 9) rfl (by kernel_rfl) (by kernel_rfl) rfl rfl (det_lookupBK (ek := ekC) (lane, y + later) rfl rfl goodC Try.underlying116 Try.zeroValue4) ?_
    refine JA_done (by kernel_rfl) ?_
    refine JE_seq ?_
    -- stop: cond
    rw [tkM_get]
    refine JC_cond rfl (fun h3 => ?_) (fun h3 => ?_)
    · refine JC_seq ?_
      refine JC_region ?_
      refine JL_step0 rfl rfl (jo_store rfl rfl rfl (by first | (simp only [splice_norm]; done) | (simp only [splice_norm]; rfl) | rfl) Try.sizeOf4 rfl rfl) fun _ => ?_
      refine JL_nil ?_
      refine JE_seq ?_
      refine JC_ret ?_
      refine JE_block_ret ?_
      refine JE_then_ret ?_
      -- stop: out
      exact JE_leave (fun st' R' a' W' => hX .ret .ret false rfl ⟨rfl, rfl, y, by simp, h3⟩ st' R' a' W') (hsub_cons hsub_nil)
    · refine JC_skip ?_
      refine JE_block ?_
      -- stop: end
      refine JE_next (fun st' R' a' W' => hK1 false ⟨rfl, fun z hz => ?_⟩ st' R' a' W') (hsub_cons hsub_nil)
      rcases List.mem_append.1 hz with hz | hz
      · exact hno z hz
      · rw [List.mem_singleton.1 hz]; exact h3
  · rintro v ⟨rfl, hno⟩
    have hres : freeW t x.g lane later = true := List.all_eq_true.2 fun y hy => by rw [hno y hy]; rfl
    refine JE_block ?_
    refine JE_seq ?_
    refine JC_seq ?_
    refine JC_region ?_
    refine JL_step0 rfl rfl (jo_store rfl rfl rfl (by first | (simp only [splice_norm]; done) | (simp only [splice_norm]; rfl) | rfl) Try.sizeOf4 rfl rfl) fun _ => ?_
    refine JL_nil ?_
    refine JE_seq ?_
    refine JC_ret ?_
    -- stop: out
    refine JE_out (.inl rfl) () (results1 Try.results60 (res_cell1 rfl Try.isAgg4)) (by rw [hres]) (List.Perm.refl _) (fun _ _ => trivial)
  · rintro cd p v hpx ⟨rfl, rfl, y, hy, ht⟩
    have hres : freeW t x.g lane later = false := by
      unfold freeW
      rw [List.all_eq_false]
      exact ⟨y, hpx.subset hy, by simp [ht]⟩
    refine JC_ret ?_
    refine JE_block_ret ?_
    refine JE_seq_ret ?_
    -- stop: out
    refine JE_out (.inl rfl) () (results1 Try.results60 (res_cell1 rfl Try.isAgg4)) (by rw [hres]) (List.Perm.refl _) (fun _ _ => trivial)
end Go.Proofs.Ythpkgabckklojaa.En

/- Walks of lend: a slice of so many times the same. -/
namespace Go.Proofs.Ythpkgabckklojaa.En
open Go.RowKit Go.Shelf

theorem and_small (n : Nat) (h : n ≤ 100) : IntKind.u64.wrap ((BitVec.ofInt IntKind.u64.bits (n : Int) &&& BitVec.ofInt IntKind.u64.bits 4294967295).toNat : Int) = n := by
  have : ∀ k : Fin 101, IntKind.u64.wrap ((BitVec.ofInt IntKind.u64.bits ((k.1 : Nat) : Int) &&& BitVec.ofInt IntKind.u64.bits 4294967295).toNat : Int) = ((k.1 : Nat) : Int) := by decide +kernel
  exact this ⟨n, by omega⟩
theorem shr_small (n : Nat) (h : n ≤ 100) : (n : Int).fdiv (2 ^ min (32 : Int).toNat IntKind.u64.bits) = 0 := by
  have : ∀ k : Fin 101, ((k.1 : Nat) : Int).fdiv (2 ^ min (32 : Int).toNat IntKind.u64.bits) = 0 := by decide +kernel
  exact this ⟨n, by omega⟩
theorem w_small (n : Nat) (h : n ≤ 100) : IntKind.u64.wrap (n : Int) = n := by
  simp [IntKind.wrap, IntKind.bits, IntKind.signed]; omega
abbrev U (n : Int) : Value := .int .u64 n
set_option maxRecDepth 100000 in
theorem Mul64_j (n : Nat) (h : n ≤ 100) : Cv Try.prog 106 [U 1, U n] KTrue (.tuple #[U 0, U n]) := by
  have a1 := and_small n h
  have s1 := shr_small n h
  have w1 := w_small n h
  refine Cx_of Try.func106 rfl Try.ntmps106 rfl fun w0 M0 => ?_
  refine JC_seq ?_
  refine JC_region ?_
  refine JL_pd rfl (det_assign rfl) ?_
  refine JL_pd rfl (det_assign rfl) ?_
  refine JL_nil ?_
  refine JE_seq ?_
  refine JC_seq ?_
  refine JC_region ?_
  refine JL_pd rfl (det_move rfl) ?_
  refine JL_pd rfl (det_andR 1 rfl rfl (by decide)) ?_
  refine JL_pd rfl (det_assign rfl) ?_
  refine JL_nil ?_
  refine JE_seq ?_
  refine JC_seq ?_
  refine JC_region ?_
  refine JL_pd rfl (det_move rfl) ?_
  refine JL_pd rfl (det_shrR 0 rfl rfl (by decide) (by decide)) ?_
  refine JL_pd rfl (det_assign rfl) ?_
  refine JL_nil ?_
  refine JE_seq ?_
  refine JC_seq ?_
  refine JC_region ?_
  refine JL_pd rfl (det_move rfl) ?_
  refine JL_pd rfl (det_andR (n : Int) rfl rfl a1) ?_
  refine JL_pd rfl (det_assign rfl) ?_
  refine JL_nil ?_
  refine JE_seq ?_
  refine JC_seq ?_
  refine JC_region ?_
  refine JL_pd rfl (det_move rfl) ?_
  refine JL_pd rfl (det_shrR 0 rfl rfl (by decide) s1) ?_
  refine JL_pd rfl (det_assign rfl) ?_
  refine JL_nil ?_
  refine JE_seq ?_
  refine JC_seq ?_
  refine JC_region ?_
  refine JL_pd rfl (det_move rfl) ?_
  refine JL_pd rfl (det_move rfl) ?_
  refine JL_pd rfl (det_mulR (n : Int) rfl rfl (by rw [Int.one_mul]; exact w1)) ?_
  refine JL_pd rfl (det_assign rfl) ?_
  refine JL_nil ?_
  refine JE_seq ?_
  refine JC_seq ?_
  refine JC_region ?_
  refine JL_pd rfl (det_move rfl) ?_
  refine JL_pd rfl (det_move rfl) ?_
  refine JL_pd rfl (det_mulR 0 rfl rfl (by rw [Int.zero_mul]; decide)) ?_
  refine JL_pd rfl (det_move rfl) ?_
  refine JL_pd rfl (det_shrR 0 rfl rfl (by decide) s1) ?_
  refine JL_pd rfl (det_addR 0 rfl rfl (by decide)) ?_
  refine JL_pd rfl (det_assign rfl) ?_
  refine JL_nil ?_
  refine JE_seq ?_
  refine JC_seq ?_
  refine JC_region ?_
  refine JL_pd rfl (det_move rfl) ?_
  refine JL_pd rfl (det_andR 0 rfl rfl (by decide)) ?_
  refine JL_pd rfl (det_assign rfl) ?_
  refine JL_nil ?_
  refine JE_seq ?_
  refine JC_seq ?_
  refine JC_region ?_
  refine JL_pd rfl (det_move rfl) ?_
  refine JL_pd rfl (det_shrR 0 rfl rfl (by decide) (by decide)) ?_
  refine JL_pd rfl (det_assign rfl) ?_
  refine JL_nil ?_
  refine JE_seq ?_
  refine JC_seq ?_
  refine JC_region ?_
  refine JL_pd rfl (det_move rfl) ?_
  refine JL_pd rfl (det_move rfl) ?_
  refine JL_pd rfl (det_move rfl) ?_
  refine JL_pd rfl (det_mulR 0 rfl rfl (by decide)) ?_
  refine JL_pd rfl (det_addR 0 rfl rfl (by decide)) ?_
  refine JL_pd rfl (det_assign rfl) ?_
  refine JL_nil ?_
  refine JE_seq ?_
  refine JC_seq ?_
  refine JC_region ?_
  refine JL_pd rfl (det_move rfl) ?_
  refine JL_pd rfl (det_move rfl) ?_
  refine JL_pd rfl (det_mulR 0 rfl rfl (by decide)) ?_
  refine JL_pd rfl (det_move rfl) ?_
  refine JL_pd rfl (det_addR 0 rfl rfl (by decide)) ?_
  refine JL_pd rfl (det_move rfl) ?_
  refine JL_pd rfl (det_shrR 0 rfl rfl (by decide) (by decide)) ?_
  refine JL_pd rfl (det_addR 0 rfl rfl (by decide)) ?_
  refine JL_pd rfl (det_assign rfl) ?_
  refine JL_nil ?_
  refine JE_seq ?_
  refine JC_seq ?_
  refine JC_region ?_
  refine JL_pd rfl (det_move rfl) ?_
  refine JL_pd rfl (det_move rfl) ?_
  refine JL_pd rfl (det_mulR (n : Int) rfl rfl (by rw [Int.one_mul]; exact w1)) ?_
  refine JL_pd rfl (det_assign rfl) ?_
  refine JL_nil ?_
  refine JE_seq ?_
  refine JC_ret ?_
  -- stop: out
  refine JE_out (.inl rfl) () (results2 Try.results106 (res_tmp rfl) (res_tmp rfl)) rfl (List.Perm.refl _) (fun _ _ => trivial)
set_option maxRecDepth 100000 in
theorem Mul_j (n : Nat) (h : n ≤ 100) : Cv Try.prog 64 [U 1, U n] KTrue (.tuple #[U 0, U n]) := by
  refine Cx_of Try.func64 rfl Try.ntmps64 rfl fun w0 M0 => ?_
  refine JC_seq ?_
  refine JC_region ?_
  refine JL_pd rfl (det_assign rfl) ?_
  refine JL_pd rfl (det_assign rfl) ?_
  refine JL_nil ?_
  refine JE_seq ?_
  refine JC_seq ?_
  refine JC_condF rfl rfl ?_
  refine JC_skip ?_
  refine JE_seq ?_
  refine JC_seq ?_
  refine JC_region ?_
  refine JL_pd rfl (det_move rfl) ?_
  refine JL_pd rfl (det_move rfl) ?_
  refine JL_step rfl rfl rfl (jo_callv rfl rfl Try.call106 rfl (Mul64_j n h)) fun _ => ?_
  refine JL_pd rfl (det_move rfl) ?_
  refine JL_pd rfl (det_extract rfl rfl) ?_
  refine JL_pd rfl (det_extract rfl rfl) ?_
  refine JL_pd rfl (det_assign rfl) ?_
  refine JL_pd rfl (det_assign rfl) ?_
  refine JL_nil ?_
  refine JE_seq ?_
  refine JC_seq ?_
  refine JC_region ?_
  refine JL_pd rfl (det_move rfl) ?_
  refine JL_pd rfl (det_move rfl) ?_
  refine JL_pd rfl (det_assign rfl) ?_
  refine JL_pd rfl (det_assign rfl) ?_
  refine JL_nil ?_
  refine JE_seq ?_
  refine JC_ret ?_
  -- stop: out
  refine JE_out (.inl rfl) () (results2 Try.results64 (res_tmp rfl) (res_tmp rfl)) rfl (List.Perm.refl _) (fun _ _ => trivial)
theorem rep_step (n k kk : Nat) (v u : Value) (hk : k + kk ≤ n) (h : kk ≤ k) : splice (List.replicate k v ++ List.replicate (n - k) u) k (((List.replicate k v ++ List.replicate (n - k) u).drop 0).take (kk * 1)) = List.replicate (k + kk) v ++ List.replicate (n - (k + kk)) u := by
    rw [List.drop_zero, Nat.mul_one, List.take_append_of_le_length (by rw [List.length_replicate]; omega), List.take_replicate, Nat.min_eq_left (by omega)]
    have e : List.replicate (n - k) u = List.replicate kk u ++ List.replicate (n - (k + kk)) u := by rw [List.replicate_append_replicate]; congr 1; omega
    have := splice_at (List.replicate kk v) (List.replicate k v) (List.replicate kk u) (List.replicate (n - (k + kk)) u) (by simp)
    rw [List.length_replicate] at this
    rw [e, ← List.append_assoc, this, List.replicate_append_replicate]
set_option maxRecDepth 100000 in
theorem Repeat_j (n : Nat) (h : n ≤ 100) (a : Option Addr) (cap : Nat) (v : Int) : Cx Try.prog 29 [.slice a 1 cap, I n] [] (KSl a 1 cap encI [v]) (fun b : Nat => .slice (some ⟨b, 0, none⟩) n n) (fun b => [ow (.slice (some ⟨b, 0, none⟩) n n) 3 1 n (List.replicate n (I v))]) (fun _ => KTrue) := by
  have hmc : (madeCells (Value.cells (I 0)) (n * 1)).toList = List.replicate n (I 0) := by
    rw [Nat.mul_one]
    refine List.eq_replicate_iff.2 ⟨by simp [madeCells], fun x hx => ?_⟩
    simp only [madeCells, Value.cells] at hx
    simp at hx
    obtain ⟨i, _, rfl⟩ := hx
    simp [Nat.mod_one]
  have hcs : splice (madeCells (Value.cells (I 0)) (n * 1)).toList 0 ((([v] : List Int).flatMap encI).take (Nat.min 1 n * 1)) = List.replicate (Nat.min 1 n) (I v) ++ List.replicate (n - Nat.min 1 n) (I 0) := by
    rw [hmc]
    cases n with
    | zero => rfl
    | succ n =>
      rw [show Nat.min 1 (n + 1) = 1 from Nat.min_eq_left (by omega), List.replicate_succ]
      rfl
  have hml : (madeCells (Value.cells (I 0)) (n * 1)).toList.length = n := by rw [hmc, List.length_replicate]
  have hm1 : Nat.min 1 n ≤ n := Nat.min_le_right _ _
  refine Cx_of Try.func29 rfl Try.ntmps29 rfl fun w0 M0 => ?_
  refine JC_seq ?_
  refine JC_region ?_
  refine JL_pd rfl (det_assign rfl) ?_
  refine JL_nil ?_
  refine JE_seq ?_
  refine JC_seq ?_
  refine JC_seq ?_
  refine JC_region ?_
  refine JL_pd rfl (det_move rfl) ?_
  refine JL_pd rfl (det_lss rfl rfl) ?_
  refine JL_nil ?_
  refine JE_seq ?_
  -- stop: cond
  refine JC_if rfl (fun h1 => ?_) (fun h1 => ?_)
  · exfalso; omega
  refine JC_skip ?_
  refine JE_seq ?_
  refine JC_seq ?_
  refine JC_region ?_
  refine JL_pd rfl (det_move rfl) ?_
  refine JL_pd rfl (det_len rfl Try.runUnderlying26) ?_
  refine JL_pd rfl (det_convI (n := 1) rfl Try.runUnderlying3 Try.runUnderlying121 (by decide)) ?_
  refine JL_pd rfl (det_move rfl) ?_
  refine JL_pd rfl (det_convI rfl Try.runUnderlying3 Try.runUnderlying121 (w_small n h)) ?_
  refine JL_step rfl rfl rfl (jo_callv rfl rfl Try.call64 rfl (Mul_j n (by omega))) fun _ => ?_
  refine JL_pd rfl (det_move rfl) ?_
  refine JL_pd rfl (det_extract rfl rfl) ?_
  refine JL_pd rfl (det_extract rfl rfl) ?_
  refine JL_pd rfl (det_assign rfl) ?_
  refine JL_pd rfl (det_assign rfl) ?_
  refine JL_nil ?_
  refine JE_seq ?_
  refine JC_seq ?_
  refine JC_seq ?_
  refine JC_region ?_
  refine JL_pd rfl (det_move rfl) ?_
  refine JL_pd rfl (det_gtr rfl rfl) ?_
  refine JL_pd rfl (det_move rfl) ?_
  -- stop: guard 2
  refine JL_join1 3 26 (.bool false) (fun hj => ?_) ?_
  · refine JL_split (d0 := 23) rfl (fun q1 => ?_) (fun q1 => ?_)
    · refine JL_skip rfl rfl q1 rfl ?_
      refine JL_skip rfl rfl q1 rfl ?_
      refine JL_pd rfl (det_pick_t rfl q1 rfl) ?_
      exact hj (by kernel_rfl) (stsub_consB rfl (by clear hj; first | rfl | (simp only [q1, Bool.and_true, Bool.true_and, Bool.false_and, Bool.and_false, Bool.or_true, Bool.true_or, Bool.or_false, Bool.false_or, Bool.not_true, Bool.not_false]; done) | (simp [q1]; done) | (simp at q1; done) | (simp [q1] <;> omega) | (exfalso; simp at q1; omega)) stsub_nil)
    · refine JL_guard rfl rfl q1 ?_
      refine JL_pd rfl (det_move rfl) ?_
      refine JL_guard rfl rfl q1 ?_
      refine JL_pd rfl (det_gtr rfl rfl) ?_
      refine JL_pd rfl (det_pick_f rfl q1 rfl) ?_
      exact hj (by kernel_rfl) (stsub_consB rfl (by clear hj; first | rfl | (simp only [q1, Bool.and_true, Bool.true_and, Bool.false_and, Bool.and_false, Bool.or_true, Bool.true_or, Bool.or_false, Bool.false_or, Bool.not_true, Bool.not_false]; done) | (simp [q1]; done) | (simp at q1; done) | (simp [q1] <;> omega) | (exfalso; simp at q1; omega)) stsub_nil)
  refine JL_nil ?_
  refine JE_seq ?_
  refine JC_condF rfl rfl ?_
  refine JC_skip ?_
  refine JE_seq ?_
  refine JC_seq ?_
  refine JC_region ?_
  refine JL_pd rfl (det_move rfl) ?_
  refine JL_pd rfl (det_convI rfl Try.runUnderlying121 Try.runUnderlying3 (i64_wrap ⟨by omega, by omega⟩)) ?_
  refine JL_step rfl rfl rfl (jo_makeSlice (n := n) (zv := I 0) (z := 1) (bytes := 8) rfl rfl rfl Try.underlying26 (by kernel_rfl) (by omega) (by omega)) fun b30 => ?_
  refine JL_pd rfl (det_assign rfl) ?_
  refine JL_nil ?_
  refine JE_seq ?_
  refine JC_seq ?_
  refine JC_region ?_
  refine JL_pd rfl (det_move rfl) ?_
  refine JL_pd rfl (det_move rfl) ?_
  refine JL_step rfl rfl rfl (jo_copyKO (e := encI) (Nat.min 1 n) (List.replicate (Nat.min 1 n) (I v) ++ List.replicate (n - Nat.min 1 n) (I 0)) rfl rfl Try.runUnderlying26 Try.sizeOf3 rfl hcs (by rw [hml]; omega) (fun _ => rfl)) fun b33 => ?_
  refine JL_pd rfl (det_assign rfl) ?_
  refine JL_nil ?_
  refine JE_seq ?_
  refine JC_seq ?_
  refine JC_block ?_
  -- stop: loop
  refine JC_loopF (γ := Nat) (fun k => k ≤ n ∧ (0 < k ∨ n = 0)) (fun k => [(8, I k)]) (fun k => [ow (.slice (some ⟨b30, 0, none⟩) n n) 3 1 n (List.replicate k (I v) ++ List.replicate (n - k) (I 0))]) (fun k => n - k) (Nat.min 1 n) ⟨hm1, by rcases Nat.eq_zero_or_pos n with h | h; exact .inr h; exact .inl (by rw [show Nat.min 1 n = 1 from Nat.min_eq_left h]; decide)⟩ (stsub_consI rfl rfl stsub_nil) (ht_cons ht_nil) ?_
  rintro k ⟨hk, hk0⟩ K hK
  dsimp only [List.cons_append, List.nil_append]
  refine JC_seq ?_
  refine JC_seq ?_
  refine JC_region ?_
  refine JL_pd rfl (det_move rfl) ?_
  refine JL_pd rfl (det_move rfl) ?_
  refine JL_pd rfl (det_len rfl Try.runUnderlying26) ?_
  refine JL_pd rfl (det_lss rfl rfl) ?_
  refine JL_nil ?_
  refine JE_seq ?_
  -- stop: cond
  refine JC_if rfl (fun h3 => ?_) (fun h3 => ?_)
  · have hk2 : k < n := by omega
    have hkk : Nat.min k (n - k) ≤ k := Nat.min_le_left _ _
    have hkn : Nat.min k (n - k) ≤ n - k := Nat.min_le_right _ _
    have hkp : 0 < Nat.min k (n - k) := Nat.lt_min.2 ⟨by omega, by omega⟩
    have hst := rep_step n k (Nat.min k (n - k)) (I v) (I 0) (by omega) hkk
    have hln : (List.replicate k (I v) ++ List.replicate (n - k) (I 0)).length = n := by rw [List.length_append, List.length_replicate, List.length_replicate]; omega
    refine JC_skip ?_
    refine JE_seq ?_
    refine JC_block ?_
    refine JC_draw [7] (by kernel_rfl) ?_
    refine JA_pd (i := 0) rfl (by kernel_rfl) rfl rfl (det_move rfl) ?_
    refine JA_pd (i := 1) rfl (by kernel_rfl) rfl rfl (det_move rfl) ?_
    refine JA_pd (i := 2) rfl (by kernel_rfl) rfl rfl (det_move rfl) ?_
    refine JA_pd (i := 3) rfl (by kernel_rfl) rfl rfl (det_sliceFO k rfl rfl rfl hk2 Try.runUnderlying26 Try.sizeOf3) ?_
    refine JA_pd (i := 4) rfl (by kernel_rfl) rfl rfl (det_move rfl) ?_
    refine JA_pd (i := 5) rfl (by kernel_rfl) rfl rfl (det_move rfl) ?_
    refine JA_pd (i := 6) rfl (by kernel_rfl) rfl rfl (det_sliceK k rfl rfl rfl (by omega) Try.runUnderlying26 Try.sizeOf3) ?_
    refine JA_tail (i := 7) (by kernel_rfl) rfl rfl rfl rfl (jo_copyO (soff := 0) (doff := k * 1) (z := 1) (Nat.min k (n - k)) (List.replicate (k + Nat.min k (n - k)) (I v) ++ List.replicate (n - (k + Nat.min k (n - k))) (I 0)) rfl rfl Try.runUnderlying26 Try.sizeOf3 rfl (by rw [Nat.mul_one]; exact hst) (by rw [hln]; omega) (by rw [hln]; omega) (fun x hx => by rcases List.mem_append.1 hx with h | h <;> rw [List.eq_of_mem_replicate h] <;> rfl)) fun b45 => ?_
    refine JT_pd (i := 8) rfl (by kernel_rfl) rfl rfl (det_add rfl rfl ⟨by omega, by omega⟩) ?_
    refine JT_pd (i := 9) rfl (by kernel_rfl) rfl rfl (det_assign rfl) ?_
    refine JT_done (by kernel_rfl) ?_
    refine JE_block ?_
    -- stop: end
    refine JE_roundF hK (k + Nat.min k (n - k)) ⟨by omega, .inl (by omega)⟩ (by omega) (stsub_consI rfl (by omega) stsub_nil) (ht_cons ht_nil)
  · obtain rfl : k = n := by omega
    refine JC_exit ?_
    refine JE_seq_exit ?_
    refine JE_then_exit ?_
    refine JE_block_here ?_
    refine JE_seq ?_
    refine JC_seq ?_
    refine JC_region ?_
    refine JL_pd rfl (det_move rfl) ?_
    refine JL_pd rfl (det_assign rfl) ?_
    refine JL_nil ?_
    refine JE_seq ?_
    refine JC_ret ?_
    -- stop: out
    refine JE_out (.inl rfl) b30 (results1 Try.results29 (res_tmp rfl)) rfl (by simp only [Nat.sub_self, List.replicate_zero, List.append_nil]; exact pick_perm) (fun _ _ => trivial)
end Go.Proofs.Ythpkgabckklojaa.En

/-
  DERIVED: THE SHELF's CONTRACTS AT THIS DUMP, IN PLAIN WORDS (tools/lay-plain.mjs out of 'Shs.lean', which tools/lay-shelf.mjs wrote): THE SAME DECLARATIONS UNDER THE SAME NAMES: 'import', 'namespace', 'open', 'def', 'theorem' AND NOTHING ELSE: no command of the shelf's: FOR A HAND-IN. Each laying: the table of numbers ('.._ren') and one theorem, a field a fact of the dump's own or the kernel's comparison; each contract: ONE APPLICATION.
-/
namespace Go.Proofs.Ythpkgabckklojaa
open Go.Shelf Go.Proofs
def Try.sortI_ren : Go.Shelf.Ren := ⟨fun | 6 => 26 | 15 => 63 | 14 => 62 | 28 => 103 | 29 => 104 | 20 => 95 | 21 => 96 | 22 => 97 | 23 => 98 | 24 => 99 | 25 => 100 | 26 => 101 | 27 => 102 | 46 => 125 | 47 => 126 | 48 => 127 | 49 => 128 | 50 => 129 | 57 => 137 | n => n, fun | 22 => 26 | 24 => 3 | 25 => 71 | 3 => 3 | 39 => 121 | 0 => 0 | 53 => 162 | 55 => 164 | 4 => 4 | 46 => 155 | 45 => 154 | 50 => 159 | 5 => 5 | 9 => 9 | 66 => 183 | 70 => 187 | 76 => 193 | 77 => 149 | n => n, fun | n => n⟩
theorem Try.sortI : Go.Proofs.SlLaysF.n6 Try.prog Try.sortI_ren := {
  mixed := by kernel_rfl
  f6 := ⟨Try.f26.name, by decide, Try.func26.trans (congrArg some (by kernel_rfl))⟩
  f14 := ⟨Try.f62.name, by decide, Try.func62.trans (congrArg some (by kernel_rfl))⟩
  f15 := Try.func63.trans (congrArg some (by kernel_rfl))
  f20 := ⟨Try.f95.name, by decide, Try.func95.trans (congrArg some (by kernel_rfl))⟩
  f21 := ⟨Try.f96.name, by decide, Try.func96.trans (congrArg some (by kernel_rfl))⟩
  f22 := ⟨Try.f97.name, by decide, Try.func97.trans (congrArg some (by kernel_rfl))⟩
  f23 := ⟨Try.f98.name, by decide, Try.func98.trans (congrArg some (by kernel_rfl))⟩
  f24 := ⟨Try.f99.name, by decide, Try.func99.trans (congrArg some (by kernel_rfl))⟩
  f25 := ⟨Try.f100.name, by decide, Try.func100.trans (congrArg some (by kernel_rfl))⟩
  f26 := ⟨Try.f101.name, by decide, Try.func101.trans (congrArg some (by kernel_rfl))⟩
  f27 := ⟨Try.f102.name, by decide, Try.func102.trans (congrArg some (by kernel_rfl))⟩
  f28 := Try.func103.trans (congrArg some (by kernel_rfl))
  f29 := Try.func104.trans (congrArg some (by kernel_rfl))
  f46 := ⟨Try.f125.name, by decide, Try.func125.trans (congrArg some (by kernel_rfl))⟩
  f47 := Try.func126.trans (congrArg some (by kernel_rfl))
  f48 := Try.func127.trans (congrArg some (by kernel_rfl))
  f49 := ⟨Try.f128.name, by decide, Try.func128.trans (congrArg some (by kernel_rfl))⟩
  f50 := ⟨Try.f129.name, by decide, Try.func129.trans (congrArg some (by kernel_rfl))⟩
  f57 := ⟨Try.f137.name, by decide, Try.func137.trans (congrArg some (by kernel_rfl))⟩
  t0 := Try.underlying0
  a0 := Try.isAgg0
  z0 := Try.sizeOf0
  v0 := Try.zeroValue0
  t3 := Try.underlying3
  a3 := Try.isAgg3
  z3 := Try.sizeOf3
  v3 := Try.zeroValue3
  t4 := Try.underlying4
  a4 := Try.isAgg4
  z4 := Try.sizeOf4
  v4 := Try.zeroValue4
  t5 := Try.underlying5
  a5 := Try.isAgg5
  z5 := Try.sizeOf5
  v5 := Try.zeroValue5
  t9 := Try.underlying9
  a9 := Try.isAgg9
  z9 := Try.sizeOf9
  v9 := Try.zeroValue9
  t22 := Try.underlying26
  a22 := Try.isAgg26
  z22 := Try.sizeOf26
  v22 := Try.zeroValue26
  a24 := Try.isAgg3
  z24 := Try.sizeOf3
  t25 := Try.underlying71
  a25 := Try.isAgg71
  z25 := Try.sizeOf71
  v25 := Try.zeroValue71
  t39 := Try.underlying121
  a39 := Try.isAgg121
  z39 := Try.sizeOf121
  v39 := Try.zeroValue121
  t45 := Try.underlying154
  a45 := Try.isAgg154
  z45 := Try.sizeOf154
  v45 := Try.zeroValue154
  t46 := Try.underlying155
  a46 := Try.isAgg155
  z46 := Try.sizeOf155
  v46 := Try.zeroValue155
  t50 := Try.underlying159
  a50 := Try.isAgg159
  z50 := Try.sizeOf159
  v50 := Try.zeroValue159
  t53 := Try.underlying162
  a53 := Try.isAgg162
  z53 := Try.sizeOf162
  v53 := Try.zeroValue162
  t55 := Try.underlying164
  a55 := Try.isAgg164
  z55 := Try.sizeOf164
  v55 := Try.zeroValue164
  t66 := Try.underlying183
  a66 := Try.isAgg183
  z66 := Try.sizeOf183
  v66 := Try.zeroValue183
  t70 := Try.underlying187
  a70 := Try.isAgg187
  z70 := Try.sizeOf187
  v70 := Try.zeroValue187
  t76 := Try.underlying193
  a76 := Try.isAgg193
  z76 := Try.sizeOf193
  v76 := Try.zeroValue193
  t77 := Try.underlying149
  a77 := Try.isAgg149
  z77 := Try.sizeOf149
  v77 := Try.zeroValue149 }
end Go.Proofs.Ythpkgabckklojaa

/- Walks of lend: places in order, by what lies there. -/
namespace Go.Proofs.Ythpkgabckklojaa.En
open Go.RowKit Go.Shelf Go.Proofs Go.Lib
open Go.Sort hiding Below

/-- The world has grown alone. -/
def Grown (W w' : World) : Prop := ∃ q os, w' = grow (W.drewN q) os
theorem Grown.refl (W : World) : Grown W W := ⟨0, #[], by simp [World.drewN]⟩
theorem Grown.drew (W : World) : Grown W W.drew := ⟨1, #[], (grow_empty _).symm⟩
theorem Grown.alloc {W w : World} (h : Grown W w) (o : Obj) : Grown W (w.alloc o) := by
  obtain ⟨q, os, rfl⟩ := h
  exact ⟨q, os ++ #[o], by rw [alloc_eq_grow, grow_grow]⟩
set_option maxHeartbeats 1000000 in
theorem fit1_any (x y n c fb sb so : Nat) (u v : Int) (hx : x < n) (hy : y < n) (hu : -1000 ≤ u ∧ u ≤ 1000) (hv : -1000 ≤ v ∧ v ≤ 1000) (W : World) (h0 : ∀ q os, (grow (W.drewN q) os).cell? ⟨fb, 0, none⟩ = some (.slice (some ⟨sb, so, none⟩) n c)) (h1 : ∀ q os, (grow (W.drewN q) os).cell? ⟨sb, so + x, none⟩ = some (I u)) (h2 : ∀ q os, (grow (W.drewN q) os).cell? ⟨sb, so + y, none⟩ = some (I v)) :
    Calls Try.prog 110 #[I x, I y, .pointer (some ⟨fb, 0, none⟩)] W fun e w' => e = .returned (I (u - v)) ∧ Grown W w' := by
  have mixed : Try.prog.follows .mixedOrders = true := by kernel_rfl
  go_enter Try.func110, Try.ntmps110
  go_wp2
  go_quiet_grown (fail)
  go_wp2
  go_ret
  have e := i64_wrap (n := u - v) ⟨by omega, by omega⟩
  exact ⟨by rw [e]; rfl, _, _, rfl⟩
def orOf (x y : Int) : Int := if x = 0 then y else x
theorem Or_two (x y : Int) (b : Nat) (w : World) (h0 : w.cell? ⟨b, 0, none⟩ = some (I x)) (h1 : w.cell? ⟨b, 1, none⟩ = some (I y)) :
    Calls Try.prog 28 #[.slice (some ⟨b, 0, none⟩) 2 2] w fun e w' => e = .returned (I (orOf x y)) ∧ w = w' := by
  go_enter Try.func28, Try.ntmps28
  go_wp2
  go_loop [8] (fun i => i = I 0 ∨ (i = I 1 ∧ Hid (x = 0)) ∨ (i = I 2 ∧ Hid (x = 0 ∧ y = 0))) (fun i => 2 - (intOf i).toNat)
  case atStart => exact .inl rfl
  case round =>
    rcases hrel with rfl | ⟨rfl, hz⟩ | ⟨rfl, hz⟩
    · by_cases hx : x = 0
      · go_wp2
        go_round
        case rel => exact .inr (.inl ⟨by go_num, hx⟩)
        case measure => simp [intOf]
      · go_wp2
        go_ret
        exact ⟨by simp [orOf, hx], rfl⟩
    · by_cases hx : y = 0
      · go_wp2
        go_round
        case rel => exact .inr (.inr ⟨by go_num, hz.out, hx⟩)
        case measure => simp [intOf]
      · go_wp2
        go_ret
        exact ⟨by simp [orOf, hz.out], rfl⟩
    · go_wp2
      go_ret
      have h := hz.out
      exact ⟨by simp [orOf, h.1, h.2], rfl⟩
set_option maxRecDepth 100000 in
set_option maxHeartbeats 2000000 in
theorem serve1_any (x y n c fb sb so : Nat) (u v : Int) (hx : x < n) (hy : y < n) (hn : n ≤ 1000) (hu : -1000 ≤ u ∧ u ≤ 1000) (hv : -1000 ≤ v ∧ v ≤ 1000) (W : World) (h0 : ∀ q os, (grow (W.drewN q) os).cell? ⟨fb, 0, none⟩ = some (.slice (some ⟨sb, so, none⟩) n c)) (h1 : ∀ q os, (grow (W.drewN q) os).cell? ⟨sb, so + x * 4 + 1 + 1, none⟩ = some (I u)) (h2 : ∀ q os, (grow (W.drewN q) os).cell? ⟨sb, so + y * 4 + 1 + 1, none⟩ = some (I v)) :
    Calls Try.prog 27 #[I x, I y, .pointer (some ⟨fb, 0, none⟩)] W fun e w' => e = .returned (I (orOf (u - v) ((x : Int) - y))) ∧ Grown W w' := by
  have mixed : Try.prog.follows .mixedOrders = true := by kernel_rfl
  have e := i64_wrap (n := u - v) ⟨by omega, by omega⟩
  have e' := i64_wrap (n := (x : Int) - y) ⟨by omega, by omega⟩
  go_enter Try.func27, Try.ntmps27
  go_wp2
  have k0 := h0 0 #[]
  have k1 := h1 0 #[]
  have k2 := h2 0 #[]
  have g0 : grow (W.drewN 0) #[] = W := by simp [World.drewN]
  rw [g0] at k0 k1 k2
  go_still_tail 16, (by kernel_rfl)
  change wpList _ _ _ _ _ W.drew
  go_wp2_with (go_at_call 28; refine Calls.mono (Or_two (u - v) ((x : Int) - y) _ _ (by simp [go_sem]) (by simp [go_sem])) ?_; rintro e w' ⟨rfl, rfl⟩)
  go_ret
  exact ⟨rfl, (Grown.drew W).alloc _⟩
theorem sortWorld_heap {α : Type} [Inhabited α] (enc : α → Value) (w : World) (g off n : Nat) (d : Array α) (os : Array Obj) (i : Nat) (hi : i < w.heap.size) (hg : g ≠ i) : (sortWorld enc w g off n d os).heap[i]? = w.heap[i]? := by
  show ((w.heap.modify g _) ++ os)[i]? = w.heap[i]?
  rw [Array.getElem?_append_left (by simp; omega), Array.getElem?_modify, if_neg hg]
theorem sortWorld_size {α : Type} [Inhabited α] (enc : α → Value) (w : World) (g off n : Nat) (d : Array α) (os : Array Obj) : w.heap.size ≤ (sortWorld enc w g off n d os).heap.size := by
  show w.heap.size ≤ ((w.heap.modify g _) ++ os).size
  simp
/-- A slice of the call's own, of which only what it holds is known. -/
def kl {α : Type} (v : Value) (enc : α → List Value) (xs : List α) : Chunk := ⟨fun k => v.ownBlock = some k, fun w => ∃ a cap, v = .slice a xs.length cap ∧ KSl a xs.length cap enc xs w⟩
section
variable {X : Ctx} {P : Program} {st : Sto} {H H' : List Chunk} {R : World → Prop} {k : Kont} {ops : Array Oper} {rest : List Oper} {Q : Exit → Act → World → Prop}
theorem JC_kl {α : Type} {enc : α → List Value} {c : Code} (v : Value) (xs : List α) [hp : Pick H (kl v enc xs) H'] (hF : ∀ b, ¬ X.Fp b) (h : ∀ a cap, v = .slice a xs.length cap → JC X P c k st H' (KAnd (KSl a xs.length cap enc xs) R)) : JC X P c k st H R := fun a w ho => by
  have ho2 := ho.freeze (c := kl v enc xs) hF
  obtain ⟨a2, cap, e, _⟩ := ho2.r.1
  exact h a2 cap e a w (ho2.know fun w' hw => ⟨by obtain ⟨a3, cap3, e3, h3⟩ := hw.1; rw [e] at e3; cases e3; exact h3, hw.2⟩)
end
def encN (i : Nat) : List Value := [I i]
instance : Rec encN 1 := ⟨fun _ => rfl, by decide⟩
theorem flat1 {α : Type} (f : α → Value) : ∀ l : List α, l.flatMap (fun x => [f x]) = l.map f
  | [] => rfl
  | a :: l => by rw [List.flatMap_cons, List.map_cons, flat1 f l]; rfl
set_option maxHeartbeats 1000000 in
theorem sortN_x (F n : Nat) (hn0 : 0 < n) (cs : List Value) (pre : World → Prop) (cf : Nat → Nat → Int) (eF : ∀ args w, (callFunc F args).run Try.prog w = .ok (.enter F args) w) (hO : SWO (ltOf fun x y : { i : Nat // i < n } => cf x.1 y.1))
    (hF : ∀ W, pre W → ∀ x y : Nat, x < n → y < n → Calls Try.prog F (#[I x, I y] ++ cs.toArray) W fun e w' => e = .returned (I (cf x y)) ∧ Grown W w') (b cap : Nat) (ord : List Nat) (ho : ∀ i ∈ ord, i < n) (hs : ord.length ≤ 1000) :
    Cx Try.prog 26 [.slice (some ⟨b, 0, none⟩) ord.length cap, .func (.func F) #[] cs.toArray] [ow (.slice (some ⟨b, 0, none⟩) ord.length cap) 3 1 ord.length (ord.flatMap encN)] pre (fun _ : { ts : List Nat // ts.Perm ord ∧ ts.Pairwise fun x y => ¬ cf y x < 0 } => .tuple #[])
      (fun ts => [kl (.slice (some ⟨b, 0, none⟩) ord.length cap) encN ts.1]) (fun _ => KTrue) := by
  intro M w a1 a2 a3 a4
  haveI : Inhabited { i : Nat // i < n } := ⟨⟨0, hn0⟩⟩
  obtain ⟨ds, rfl⟩ : ∃ ds : List { i : Nat // i < n }, ord = ds.map (·.1) := ⟨ord.attach.map fun x => ⟨x.1, ho x.1 x.2⟩, by simp⟩
  have hc := a2 _ (List.mem_singleton.2 rfl)
  have hfl : ((ds.map (·.1)).flatMap encN) = ds.map fun x => I (x.1 : Int) := by rw [List.flatMap_map]; exact flat1 (fun x : { i : Nat // i < n } => I (x.1 : Int)) ds
  rw [hfl] at hc
  simp only [List.length_map] at hc hs ⊢
  have hrow : Row w 0 3 1 b ds.length cap (ds.map fun x => I (x.1 : Int)) := hc.1.now
  have hcap : ds.length ≤ cap ∧ cap ≤ maxLen := by
    rcases hc.1.now.2 with ⟨h, _⟩ | ⟨g, cap', cur, hv, h2, h3, h4, h5, h6⟩
    · cases h
    · cases hv; exact ⟨h4, h5⟩
  have hH : Holds (fun x : { i : Nat // i < n } => I (x.1 : Int)) w b 0 ds.toArray := by
    intro j hj
    have hj' : j < ds.length := by simpa using hj
    refine ⟨?_, hrow.free _⟩
    rw [getElem!_pos ds.toArray j hj]
    have := hrow.cell j (u := I ((ds[j].1 : Nat) : Int)) (by simp [hj'])
    simpa using this
  have hmv : ∀ m os (dk : Array { i : Nat // i < n }), Moves (· = b) w (sortWorld (fun x : { i : Nat // i < n } => I (x.1 : Int)) w b 0 m dk os) := fun m os dk => ⟨rfl, rfl, rfl, sortWorld_size .., fun i hi hne => sortWorld_heap _ _ _ _ _ _ _ _ hi fun e => hne e.symm⟩
  have hMb : M b := (a2 _ (List.mem_singleton.2 rfl)).2 b rfl
  have hcmp : CmpLays1 Try.prog F cs.toArray (fun x : { i : Nat // i < n } => I (x.1 : Int)) (fun x y => cf x.1 y.1) b 0 ds.toArray.size w := fun m os dk hd x y =>
    hF _ (a4 _ ((hmv m os dk).weaken fun i _ e => e ▸ hMb)) x.1 y.1 x.2 y.2
  have hcon := Any.slices_SortFunc Try.sortI (fun x : { i : Nat // i < n } => I (x.1 : Int)) (fun _ => rfl) (fun x y => cf x.1 y.1) hO F cs.toArray b 0 cap ds.toArray w eF hcmp hH hrow.lt (by simp; omega)
  change Calls Try.prog 26 _ _ _ at hcon
  simp only [List.size_toArray] at hcon
  refine hcon.mono ?_
  rintro e w' ⟨rfl, d', m, os, ⟨hsz, _, hp⟩, hso, rfl⟩
  have hsz : d'.size = ds.length := by simpa using hsz
  have hperm : d'.toList.Perm ds := by
    have e1 : d'.extract 0 ds.length = d' := by rw [← hsz]; simp
    rw [e1] at hp
    simpa using hp
  have hpw : (d'.toList.map (·.1)).Pairwise fun x y => ¬ cf y x < 0 := by
    rw [List.pairwise_map, List.pairwise_iff_getElem]
    intro i j hi hj hij
    have h1 := hso i j (Nat.zero_le _) hij (by simpa [hsz] using hj)
    rw [getElem!_pos d' i (by simpa using hi), getElem!_pos d' j (by simpa using hj)] at h1
    rw [Array.getElem_toList, Array.getElem_toList]
    exact of_decide_eq_false h1
  have hlen : (d'.toList.map (·.1)).length = ds.length := by rw [List.length_map, hperm.length_eq]
  have hH2 := holds_sortWorld (fun x : { i : Nat // i < n } => I (x.1 : Int)) w b 0 m ds.toArray d' os hrow.lt hH (by simpa using hsz)
  have hzz := sortWorld_size (fun x : { i : Nat // i < n } => I (x.1 : Int)) w b 0 m d' os
  refine ⟨⟨d'.toList.map (·.1), hperm.map _, hpw⟩, M, rfl, (hmv m os d').weaken fun i _ e => ⟨_, List.mem_singleton.2 rfl, by show _ = some i; rw [e]; rfl⟩, fun _ h => h, fun _ h => .inl h, fun x hx => Nat.lt_of_lt_of_le (a1 x hx) hzz, fun c hc => ?_, by simp, fun _ _ => trivial⟩
  obtain rfl := List.mem_singleton.1 hc
  have hown : ∀ x, (kl (.slice (some ⟨b, 0, none⟩) ds.length cap) encN (d'.toList.map (·.1))).own x → x = b := fun x hx => by
    have : (Value.slice (some (⟨b, 0, none⟩ : Addr)) ds.length cap).ownBlock = some x := hx
    simpa [Value.ownBlock] using this.symm
  refine ⟨⟨fun x hx => by rw [hown x hx]; exact Nat.lt_of_lt_of_le hrow.lt hzz, fun w2 hz2 he2 => ⟨some ⟨b, 0, none⟩, cap, by rw [hlen], ⟨by rw [hlen]; exact hcap.1, hcap.2, fun h => (by cases h), fun _ => ⟨b, 0, rfl, ?_, fun i c hi => ?_⟩⟩, rfl⟩⟩, fun x hx => ⟨?_, .inl ⟨_, List.mem_singleton.2 rfl, ?_⟩⟩⟩
  · exact Nat.lt_of_lt_of_le (Nat.lt_of_lt_of_le hrow.lt hzz) hz2
  · have e2 : ((d'.toList.map (·.1)).flatMap encN) = d'.toList.map fun x => I (x.1 : Int) := by rw [List.flatMap_map]; exact flat1 (fun x : { i : Nat // i < n } => I (x.1 : Int)) d'.toList
    rw [e2] at hi
    have hil : i < d'.size := by have := (List.getElem?_eq_some_iff.1 hi).1; simpa using this
    have h7 := (hH2 i hil).1
    rw [getElem!_pos d' i hil] at h7
    have hi' : c = I ((d'[i].1 : Nat) : Int) := by simpa [hil] using hi.symm
    have h8 := he2 b rfl
    rw [hi']
    simp only [World.cell?, h8] at h7 ⊢
    exact h7
  · rw [hown x hx]; exact hMb
  · rw [hown x hx]; rfl
end Go.Proofs.Ythpkgabckklojaa.En

/- Walks of lend: Serve. -/
namespace Go.Proofs.Ythpkgabckklojaa.En
open Go.RowKit Go.Shelf Go.Proofs Go.Lib
open Go.Sort hiding Below

theorem Repeat_i (m : Int) (n : Nat) (hm : m = n) (h : n ≤ 100) (a : Option Addr) (cap : Nat) (v : Int) : Cx Try.prog 29 [.slice a 1 cap, I m] [] (KSl a 1 cap encI [v]) (fun b : Nat => .slice (some ⟨b, 0, none⟩) n n) (fun b => [ow (.slice (some ⟨b, 0, none⟩) n n) 3 1 n ((List.replicate n v).flatMap encI)]) (fun _ => KTrue) := by
  subst hm
  rw [show (List.replicate n v).flatMap encI = List.replicate n (I v) by rw [show encI = fun v => [I v] from rfl, flat1 (fun v : Int => I v), List.map_replicate]]
  exact Repeat_j n h a cap v
/-- The first places in order, the others 0. -/
def ordI (n i : Nat) : List Nat := List.range i ++ List.replicate (n - i) 0
theorem ordI_len {n i : Nat} (h : i ≤ n) : (ordI n i).length = n := by simp [ordI]; omega
theorem ordI_set {n i : Nat} (h : i < n) : (ordI n i).set i i = ordI n (i + 1) := by
  unfold ordI
  rw [List.range_succ, List.append_assoc, show n - i = (n - (i + 1)) + 1 by omega, List.replicate_succ]
  rw [List.set_append_right _ _ (by simp)]
  simp
theorem ordI_zero (n : Nat) : (madeCells (Value.cells (I 0)) (n * 1)).toList = (ordI n 0).flatMap encN := by
  rw [Nat.mul_one, show encN = fun i : Nat => [I (i : Int)] from rfl, flat1 (fun i : Nat => I (i : Int))]
  refine List.ext_getElem (by simp [madeCells, ordI]) fun i h1 h2 => ?_
  simp [madeCells, Value.cells, ordI, Nat.mod_one]
theorem ordI_all (n : Nat) : ordI n n = List.range n := by simp [ordI]
/-- By when they may go, then by their places. -/
def cfS (l : List Gr) (x y : Nat) : Int := orOf (l[x]!.hi - l[y]!.hi) ((x : Int) - y)
theorem cfS_lt (l : List Gr) (x y : Nat) : cfS l x y < 0 ↔ l[x]!.hi < l[y]!.hi ∨ l[x]!.hi = l[y]!.hi ∧ x < y := by
  unfold cfS orOf
  split <;> omega
theorem swoS (l : List Gr) (n : Nat) : SWO (ltOf fun x y : { i : Nat // i < n } => cfS l x.1 y.1) where
  irrefl x := decide_eq_false (by rw [cfS_lt]; omega)
  trans x y z h1 h2 := by
    have h1 := (cfS_lt _ _ _).1 (of_decide_eq_true h1)
    have h2 := (cfS_lt _ _ _).1 (of_decide_eq_true h2)
    exact decide_eq_true ((cfS_lt _ _ _).2 (by omega))
  ntrans x y z h1 h2 := by
    have h1 := mt (cfS_lt _ _ _).2 (of_decide_eq_false h1)
    have h2 := mt (cfS_lt _ _ _).2 (of_decide_eq_false h2)
    exact decide_eq_false (mt (cfS_lt _ _ _).1 (by omega))
/-- A cell of a slice that is known, in each world that has grown. -/
theorem cell_of {α : Type} {enc : α → List Value} {a : Option Addr} {n c : Nat} {xs : List α} {w : World} (h : KSl a n c enc xs w) (hne : xs.flatMap enc ≠ []) : ∃ b off, a = some ⟨b, off, none⟩ ∧ ∀ i v, (xs.flatMap enc)[i]? = some v → ∀ q os, (grow (w.drewN q) os).cell? ⟨b, off + i, none⟩ = some v := by
  obtain ⟨⟨_, _, _, h4⟩, _⟩ := h
  obtain ⟨b, off, q1, q2, q3⟩ := h4 hne
  exact ⟨b, off, q1, fun i v hi q os => cell_grown q2 (q3 i v hi) q os⟩
theorem flatG_get (xs : List Gx) (i : Nat) (h : i < xs.length) (k : Nat) (hk : k < 4) : (xs.flatMap encG)[i * 4 + k]? = (encG xs[i])[k]? := flatMap_get encG 4 (fun _ => rfl) xs i k xs[i] (List.getElem?_eq_getElem h) hk
theorem gs_get (xs : List Gx) (i : Nat) (h : i < xs.length) : (gs xs)[i]! = xs[i].g := by
  rw [getElem!_pos (gs xs) i (by simp [gs, h])]; simp [gs]
theorem serve_cmp (xs : List Gx) (hV : ∀ g ∈ gs xs, VGr g) (hl : xs.length ≤ 1000) (fb : Nat) (a : Option Addr) (c : Nat) (W : World) (h0 : Box W fb [.slice a xs.length c]) (h1 : KSl a xs.length c encG xs W) (x y : Nat) (hx : x < xs.length) (hy : y < xs.length) :
    Calls Try.prog 27 (#[I x, I y] ++ [pt fb].toArray) W fun e w' => e = .returned (I (cfS (gs xs) x y)) ∧ Grown W w' := by
  have hne : xs.flatMap encG ≠ [] := fun e => by
    have := flat_len encG xs
    rw [e] at this; simp at this; omega
  obtain ⟨sb, so, rfl, hc⟩ := cell_of h1 hne
  have v : ∀ i (h : i < xs.length), 0 ≤ xs[i].g.hi ∧ xs[i].g.hi ≤ 30 := fun i h => by
    have q := hV xs[i].g (List.mem_map.2 ⟨xs[i], List.getElem_mem h, rfl⟩)
    have := q.f0; have := q.fl; have := q.lh; have := q.h1
    omega
  have := v x hx
  have := v y hy
  have hr := serve1_any x y xs.length c fb sb so xs[x].g.hi xs[y].g.hi hx hy hl (by omega) (by omega) W (fun q os => cell_grown h0.lt (h0.cell 0 rfl) q os)
    (fun q os => hc (x * 4 + 2) _ (by rw [flatG_get xs x hx 2 (by decide)]; rfl) q os) (fun q os => hc (y * 4 + 2) _ (by rw [flatG_get xs y hy 2 (by decide)]; rfl) q os)
  unfold cfS
  rw [gs_get xs x hx, gs_get xs y hy]
  exact hr
theorem sort0_x (b cap : Nat) (fv : Value) (hcap : True) (pre : World → Prop) (p : Nat → Nat → Prop) : Cx Try.prog 26 [.slice (some ⟨b, 0, none⟩) 0 cap, fv] [ow (.slice (some ⟨b, 0, none⟩) 0 cap) 3 1 0 []] pre (fun _ : { ts : List Nat // ts.Perm [] ∧ ts.Pairwise p } => .tuple #[])
      (fun ts => [kl (.slice (some ⟨b, 0, none⟩) 0 cap) encN ts.1]) (fun _ => KTrue) := by
  intro M w a1 a2 a3 a4
  have hc := a2 _ (List.mem_singleton.2 rfl)
  have hrow : Row w 0 3 1 b 0 cap [] := hc.1.now
  have hcap : 0 ≤ cap ∧ cap ≤ maxLen := by
    rcases hc.1.now.2 with ⟨h, _⟩ | ⟨g, cap', cur, hv, h2, h3, h4, h5, h6⟩
    · cases h
    · cases hv; exact ⟨h4, h5⟩
  have hno := AnyF.slices_SortFunc_none (P := Try.prog) (ρ := Try.sortI_ren) { Try.sortI with } (some ⟨b, 0, none⟩) cap fv w
  change Calls Try.prog 26 _ _ _ at hno
  refine hno.mono ?_
  rintro e w' ⟨rfl, rfl⟩
  refine ⟨⟨[], List.Perm.refl _, List.Pairwise.nil⟩, M, rfl, Moves.refl _, fun _ h => h, fun _ h => .inl h, a1, fun c hc' => ?_, by simp, fun _ _ => trivial⟩
  obtain rfl := List.mem_singleton.1 hc'
  have hown : ∀ x, (kl (.slice (some ⟨b, 0, none⟩) 0 cap) encN ([] : List Nat)).own x → x = b := fun x hx => by
    have : (Value.slice (some (⟨b, 0, none⟩ : Addr)) 0 cap).ownBlock = some x := hx
    simpa [Value.ownBlock] using this.symm
  refine ⟨⟨fun x hx => by rw [hown x hx]; exact hrow.lt, fun w2 _ _ => ⟨some ⟨b, 0, none⟩, cap, rfl, ⟨Nat.zero_le _, hcap.2, fun h => (by cases h), fun h => absurd rfl h⟩, rfl⟩⟩, fun x hx => ⟨?_, .inl ⟨_, List.mem_singleton.2 rfl, ?_⟩⟩⟩
  · rw [hown x hx]; exact hc.2 b rfl
  · rw [hown x hx]; rfl
theorem sortN_y (F n : Nat) (cs : List Value) (pre : World → Prop) (cf : Nat → Nat → Int) (eF : ∀ args w, (callFunc F args).run Try.prog w = .ok (.enter F args) w) (hO : SWO (ltOf fun x y : { i : Nat // i < n } => cf x.1 y.1))
    (hF : ∀ W, pre W → ∀ x y : Nat, x < n → y < n → Calls Try.prog F (#[I x, I y] ++ cs.toArray) W fun e w' => e = .returned (I (cf x y)) ∧ Grown W w') (b cap m : Nat) (ord : List Nat) (ho : ∀ i ∈ ord, i < n) (hm : ord.length = m) (hs : m ≤ 1000) :
    Cx Try.prog 26 [.slice (some ⟨b, 0, none⟩) m cap, .func (.func F) #[] cs.toArray] [ow (.slice (some ⟨b, 0, none⟩) m cap) 3 1 m (ord.flatMap encN)] pre (fun _ : { ts : List Nat // ts.Perm ord ∧ ts.Pairwise fun x y => ¬ cf y x < 0 } => .tuple #[])
      (fun ts => [kl (.slice (some ⟨b, 0, none⟩) m cap) encN ts.1]) (fun _ => KTrue) := by
  subst hm
  rcases Nat.eq_zero_or_pos n with h | h
  · obtain rfl : ord = [] := by
      cases ord with
      | nil => rfl
      | cons i r => have := ho i (by simp); omega
    exact sort0_x b cap _ trivial pre _
  · exact sortN_x F n h cs pre cf eF hO hF b cap ord ho hs
end Go.Proofs.Ythpkgabckklojaa.En

/- Own texts, laid together: E5 E6 E7 ShEn E8 E9 EO. Nothing is asked. -/
import Derived.Test.YthpkgabckklojaaGreatJF
import Derived.Test.YthpkgabckklojaaGreatZ9
import Derived.Test.YthpkgabckklojaaGreatZ4
import Derived.Shelf.SlGeneric
import Derived.Shelf.SlSortCmp.Whole1
import Derived.Ground.SlsfProg
import Derived.Test.YthpkgabckklojaaGreatProg
import Derived.Shelf.SlSortCmp.NoneTotal
import Derived.Shelf.SlSortCmp.QuietGrown
import Derived.StillTailTactics
set_option linter.unusedSimpArgs false
set_option linter.unusedVariables false
/- Walks of lend: numbers, and what all of a list are. -/
namespace Go.Proofs.YthpkgabckklojaaGreat.En
open Go.RowKit Go.Shelf

/-- A house, and a group, with where their lists lie. -/
structure Hx where
  h : Hs
  a : Option Addr
  c : Nat
structure Gx where
  g : Gr
  a : Option Addr
  c : Nat
instance : Inhabited Gx := ⟨⟨default, none, 0⟩⟩
def encG (x : Gx) : List Value := [I x.g.fr, I x.g.lo, I x.g.hi, .slice x.a x.g.feet.length x.c]
instance : Rec encG 4 := ⟨fun _ => rfl, by decide⟩
abbrev KHx (x : Hx) : World → Prop := KSl x.a x.h.shoes.length x.c encI x.h.shoes
def KFt (xs : List Gx) : World → Prop := fun w => ∀ x ∈ xs, KSl x.a x.g.feet.length x.c encI x.g.feet w
abbrev KGs (a : Option Addr) (c : Nat) (xs : List Gx) : World → Prop := KAnd (KSl a xs.length c encG xs) (KFt xs)
abbrev gs (xs : List Gx) : List Gr := xs.map (·.g)
theorem take_snoc {α : Type} {l : List α} {i : Nat} (h : i < l.length) : l.take (i + 1) = l.take i ++ [l[i]] := List.take_succ_eq_append_getElem h
theorem within_j (n lo hi : Int) : Cv Tryz.prog 178 [I n, I lo, I hi] KTrue (.bool (inI n lo hi)) := by
  refine Cx_of Tryz.func178 rfl Tryz.ntmps178 rfl fun w0 M0 => ?_
  refine JC_seq ?_
  refine JC_region ?_
  refine JL_pd rfl (det_assign rfl) ?_
  refine JL_nil ?_
  refine JE_seq ?_
  refine JC_seq ?_
  refine JC_region ?_
  refine JL_pd rfl (det_move rfl) ?_
  refine JL_pd rfl (det_move rfl) ?_
  refine JL_pd rfl (det_leq rfl rfl) ?_
  refine JL_pd rfl (det_move rfl) ?_
  refine JL_split (d0 := 10) rfl (fun h1 => ?_) (fun h1 => ?_)
  · refine JL_guard rfl rfl h1 ?_
    refine JL_pd rfl (det_move rfl) ?_
    refine JL_guard rfl rfl h1 ?_
    refine JL_pd rfl (det_move rfl) ?_
    refine JL_guard rfl rfl h1 ?_
    refine JL_pd rfl (det_leq rfl rfl) ?_
    refine JL_pd rfl (det_pick_t rfl h1 rfl) ?_
    refine JL_pd rfl (det_assign rfl) ?_
    refine JL_nil ?_
    refine JE_seq ?_
    refine JC_ret ?_
    refine JE_out (.inl rfl) () (results1 Tryz.results178 (res_tmp rfl)) ?_ (List.Perm.refl _) (fun _ _ => trivial)
    (simp_all [inI])
    (try omega)
  · refine JL_skip rfl rfl h1 rfl ?_
    refine JL_skip rfl rfl h1 rfl ?_
    refine JL_skip rfl rfl h1 rfl ?_
    refine JL_pd rfl (det_pick_f rfl h1 rfl) ?_
    refine JL_pd rfl (det_assign rfl) ?_
    refine JL_nil ?_
    refine JE_seq ?_
    refine JC_ret ?_
    refine JE_out (.inl rfl) () (results1 Tryz.results178 (res_tmp rfl)) ?_ (List.Perm.refl _) (fun _ _ => trivial)
    (simp_all [inI])
    (try omega)
theorem size_j (n : Int) : Cv Tryz.prog 129 [I n] KTrue (.bool (inI n 0 9)) := by
  refine Cx_of Tryz.func129 rfl Tryz.ntmps129 rfl fun w0 M0 => ?_
  refine JC_seq ?_
  refine JC_region ?_
  refine JL_pd rfl (det_assign rfl) ?_
  refine JL_nil ?_
  refine JE_seq ?_
  refine JC_seq ?_
  refine JC_region ?_
  refine JL_pd rfl (det_move rfl) ?_
  refine JL_step rfl rfl rfl (jo_callv rfl rfl Tryz.call178 rfl (within_j _ _ _)) fun _ => ?_
  refine JL_pd rfl (det_assign rfl) ?_
  refine JL_nil ?_
  refine JE_seq ?_
  refine JC_ret ?_
  refine JE_out (.inl rfl) () (results1 Tryz.results129 (res_tmp rfl)) ?_ (List.Perm.refl _) (fun _ _ => trivial)
  rfl
theorem hour_j (n : Int) : Cv Tryz.prog 214 [I n] KTrue (.bool (inI n 0 30)) := by
  refine Cx_of Tryz.func214 rfl Tryz.ntmps214 rfl fun w0 M0 => ?_
  refine JC_seq ?_
  refine JC_region ?_
  refine JL_pd rfl (det_assign rfl) ?_
  refine JL_nil ?_
  refine JE_seq ?_
  refine JC_seq ?_
  refine JC_region ?_
  refine JL_pd rfl (det_move rfl) ?_
  refine JL_step rfl rfl rfl (jo_callv rfl rfl Tryz.call178 rfl (within_j _ _ _)) fun _ => ?_
  refine JL_pd rfl (det_assign rfl) ?_
  refine JL_nil ?_
  refine JE_seq ?_
  refine JC_ret ?_
  refine JE_out (.inl rfl) () (results1 Tryz.results214 (res_tmp rfl)) ?_ (List.Perm.refl _) (fun _ _ => trivial)
  rfl
theorem pairs_j (n : Int) : Cv Tryz.prog 179 [I n] KTrue (.bool (inI n 0 20)) := by
  refine Cx_of Tryz.func179 rfl Tryz.ntmps179 rfl fun w0 M0 => ?_
  refine JC_seq ?_
  refine JC_region ?_
  refine JL_pd rfl (det_assign rfl) ?_
  refine JL_nil ?_
  refine JE_seq ?_
  refine JC_seq ?_
  refine JC_region ?_
  refine JL_pd rfl (det_move rfl) ?_
  refine JL_step rfl rfl rfl (jo_callv rfl rfl Tryz.call178 rfl (within_j _ _ _)) fun _ => ?_
  refine JL_pd rfl (det_assign rfl) ?_
  refine JL_nil ?_
  refine JE_seq ?_
  refine JC_ret ?_
  refine JE_out (.inl rfl) () (results1 Tryz.results179 (res_tmp rfl)) ?_ (List.Perm.refl _) (fun _ _ => trivial)
  rfl

set_option maxRecDepth 100000 in
theorem indexFuncI_j (p : Int → Bool) (F : Nat) (fs cs : List Value) (Kf : World → Prop) (eF : ∀ args w, (callFunc F args).run Tryz.prog w = .ok (.enter F args) w) (hF : ∀ x : Int, Cv Tryz.prog F (fs ++ [I x] ++ cs) Kf (.bool (p x))) (a : Option Addr) (cap : Nat) (xs : List Int) (hl : xs.length ≤ 9223372036854775807) :
    Cv Tryz.prog 187 [.slice a xs.length cap, .func (.func F) fs.toArray cs.toArray] (KAnd (KSl a xs.length cap encI xs) Kf) (I (idxOf p xs)) := by
  refine Cx_of Tryz.func187 rfl Tryz.ntmps187 rfl fun w0 M0 => ?_
  refine JC_seq ?_
  refine JC_region ?_
  refine JL_pd rfl (det_assign rfl) ?_
  refine JL_nil ?_
  refine JE_seq ?_
  refine JC_seq ?_
  refine JC_seq ?_
  refine JC_region ?_
  refine JL_pd rfl (det_move rfl) ?_
  refine JL_pd rfl (det_len rfl Tryz.runUnderlying31) ?_
  refine JL_pd rfl (det_move rfl) ?_
  refine JL_nil ?_
  refine JE_seq ?_
  refine JC_block ?_
  -- stop: loop
  refine JC_loopF (γ := Nat) (fun i => i ≤ xs.length ∧ (xs.take i).any p = false) (fun i => [(8, I i)]) (fun _ => []) (fun i => xs.length - i) 0 ⟨Nat.zero_le _, rfl⟩ (stsub_consI rfl rfl stsub_nil) ht_nil ?_
  rintro i ⟨hi, hno⟩ K hK
  dsimp only [List.cons_append, List.nil_append]
  refine JC_seq ?_
  refine JC_region ?_
  refine JL_pd rfl (det_lss rfl rfl) ?_
  refine JL_nil ?_
  refine JE_seq ?_
  refine JC_seq ?_
  -- stop: cond
  refine JC_if rfl (fun h1 => ?_) (fun h1 => ?_)
  · have hi2 : i < xs.length := by omega
    refine JC_skip ?_
    refine JE_seq ?_
    refine JC_seq ?_
    refine JC_block ?_
    refine JC_seq ?_
    refine JC_region ?_
    refine JL_pd rfl (det_move rfl) ?_
    refine JL_pd rfl (det_assign rfl) ?_
    refine JL_nil ?_
    refine JE_seq ?_
    refine JC_seq ?_
    refine JC_region ?_
    refine JL_pd rfl (det_move rfl) ?_
    refine JL_pd rfl (det_move rfl) ?_
    refine JL_pd rfl (det_move rfl) ?_
    refine JL_dt rfl (det_indexAddr rfl rfl (by first | rfl | omega) (by first | assumption | omega | decide) Tryz.runUnderlying31 Tryz.sizeOf3) ?_
    refine JL_dt rfl (det_loadE rfl (by first | assumption | omega | decide) Tryz.isAgg3 rfl rfl) ?_
    -- stop: op  5 t16 := (call (Call (value t11) (t15) (3)))   <0 4>   109
    refine JL_step rfl rfl rfl (jo_callv rfl rfl eF rfl (hF xs[i])) fun _ => ?_
    refine JL_nil ?_
    refine JE_seq ?_
    -- stop: cond
    refine JC_cond rfl (fun h2 => ?_) (fun h2 => ?_)
    · refine JC_seq ?_
      refine JC_region ?_
      refine JL_pd rfl (det_move rfl) ?_
      refine JL_pd rfl (det_assign rfl) ?_
      refine JL_nil ?_
      refine JE_seq ?_
      refine JC_ret ?_
      refine JE_block_ret ?_
      refine JE_seq_ret ?_
      refine JE_then_ret ?_
      refine JE_block_ret ?_
      refine JE_seq_ret ?_
      -- stop: out
      refine JE_out (.inl rfl) () (results1 Tryz.results187 (res_tmp rfl)) (by rw [idxOf_hit hi2 hno h2]) (List.Perm.refl _) (fun _ _ => trivial)
    · refine JC_skip ?_
      refine JE_block ?_
      refine JE_seq ?_
      refine JC_region ?_
      refine JL_pd rfl (det_add rfl rfl ⟨by omega, by omega⟩) ?_
      refine JL_pd rfl (det_move rfl) ?_
      refine JL_nil ?_
      -- stop: end
      refine JE_roundF hK (i + 1) ⟨by omega, by rw [take_snoc hi2, List.any_append, hno]; simp [h2]⟩ (by omega) (stsub_consI rfl (by omega) stsub_nil) ht_nil
  · refine JC_exit ?_
    refine JE_seq_exit ?_
    refine JE_then_exit ?_
    refine JE_block_here ?_
    refine JE_seq ?_
    refine JC_seq ?_
    refine JC_region ?_
    refine JL_pd rfl (det_assign rfl) ?_
    refine JL_nil ?_
    refine JE_seq ?_
    refine JC_ret ?_
    -- stop: out
    obtain rfl : i = xs.length := by omega
    rw [List.take_length] at hno
    refine JE_out (.inl rfl) () (results1 Tryz.results187 (res_tmp rfl)) (by rw [idxOf_none hno]) (List.Perm.refl _) (fun _ _ => trivial)
theorem containsFuncI_j (p : Int → Bool) (F : Nat) (fs cs : List Value) (Kf : World → Prop) (eF : ∀ args w, (callFunc F args).run Tryz.prog w = .ok (.enter F args) w) (hF : ∀ x : Int, Cv Tryz.prog F (fs ++ [I x] ++ cs) Kf (.bool (p x))) (a : Option Addr) (cap : Nat) (xs : List Int) (hl : xs.length ≤ 9223372036854775807) :
    Cv Tryz.prog 137 [.slice a xs.length cap, .func (.func F) fs.toArray cs.toArray] (KAnd (KSl a xs.length cap encI xs) Kf) (.bool (xs.any p)) := by
  refine Cx_of Tryz.func137 rfl Tryz.ntmps137 rfl fun w0 M0 => ?_
  refine JC_seq ?_
  refine JC_region ?_
  refine JL_pd rfl (det_assign rfl) ?_
  refine JL_nil ?_
  refine JE_seq ?_
  refine JC_seq ?_
  refine JC_region ?_
  refine JL_pd rfl (det_move rfl) ?_
  refine JL_pd rfl (det_move rfl) ?_
  -- stop: op  2 t7 := (call (Call (value f187) (t5 t6) (31 119)))   <0 1>   125
  refine JL_step rfl rfl rfl (jo_callv rfl rfl Tryz.call187 rfl (indexFuncI_j p F fs cs Kf eF hF a cap xs hl)) fun _ => ?_
  refine JL_pd rfl (det_geq rfl rfl) ?_
  refine JL_pd rfl (det_assign rfl) ?_
  refine JL_nil ?_
  refine JE_seq ?_
  refine JC_ret ?_
  -- stop: out
  refine JE_out (.inl rfl) () (results1 Tryz.results137 (res_tmp rfl)) (by rw [show decide ((0 : Int) ≤ idxOf p xs) = xs.any p from idxOf_any]) (List.Perm.refl _) (fun _ _ => trivial)
theorem allI_1 (p : Int → Bool) (F : Nat) (fs cs : List Value) (Kf : World → Prop) (eF : ∀ args w, (callFunc F args).run Tryz.prog w = .ok (.enter F args) w) (hF : ∀ x : Int, Cv Tryz.prog F (fs ++ [I x] ++ cs) Kf (.bool (p x))) (b : Nat) (x : Int) :
    Cv Tryz.prog 180 [I x, .pointer (some ⟨b, 0, none⟩)] (KAnd (KBox b [.func (.func F) fs.toArray cs.toArray]) Kf) (.bool (!p x)) := by
  refine Cx_of Tryz.func180 rfl Tryz.ntmps180 rfl fun w0 M0 => ?_
  refine JC_seq ?_
  refine JC_region ?_
  refine JL_pd rfl (det_assign rfl) ?_
  refine JL_nil ?_
  refine JE_seq ?_
  refine JC_seq ?_
  refine JC_region ?_
  refine JL_dt rfl (det_loadK rfl Tryz.isAgg119 rfl) ?_
  refine JL_pd rfl (det_move rfl) ?_
  -- stop: op  2 t6 := (call (Call (value t4) (t5) (3)))   <0 1>   36
  refine JL_step rfl rfl rfl (jo_callv rfl rfl eF rfl (hF x)) fun _ => ?_
  refine JL_pd rfl (det_not rfl) ?_
  refine JL_pd rfl (det_assign rfl) ?_
  refine JL_nil ?_
  refine JE_seq ?_
  refine JC_ret ?_
  -- stop: out
  refine JE_out (.inl rfl) () (results1 Tryz.results180 (res_tmp rfl)) rfl (List.Perm.refl _) (fun _ _ => trivial)
theorem allI_j (p : Int → Bool) (F : Nat) (fs cs : List Value) (Kf : World → Prop) (eF : ∀ args w, (callFunc F args).run Tryz.prog w = .ok (.enter F args) w) (hF : ∀ x : Int, Cv Tryz.prog F (fs ++ [I x] ++ cs) Kf (.bool (p x))) (a : Option Addr) (cap : Nat) (xs : List Int) (hl : xs.length ≤ 9223372036854775807) :
    Cv Tryz.prog 128 [.slice a xs.length cap, .func (.func F) fs.toArray cs.toArray] (KAnd (KSl a xs.length cap encI xs) Kf) (.bool (xs.all p)) := by
  have hcf := fun b3 : Nat => containsFuncI_j (fun x => !p x) 180 [] [.pointer (some ⟨b3, 0, none⟩)] _ Tryz.call180 (allI_1 p F fs cs Kf eF hF b3) a cap xs hl
  refine Cx_of Tryz.func128 rfl Tryz.ntmps128 rfl fun w0 M0 => ?_
  refine JC_seq ?_
  refine JC_region ?_
  refine JL_step rfl rfl rfl (jo_box rfl rfl) fun b3 => ?_
  refine JL_pd rfl (det_assign rfl) ?_
  refine JL_nil ?_
  refine JE_seq ?_
  refine JC_seq ?_
  refine JC_region ?_
  refine JL_pd rfl (det_move rfl) ?_
  refine JL_pd rfl (det_makeFuncE rfl rfl) ?_
  -- stop: op  2 t7 := (call (Call (value f137) (t5 t6) (31 119)))   <0 1>   36
  refine JL_keep b3 noFp ?_
  refine JL_step rfl rfl rfl (jo_callv rfl rfl Tryz.call137 rfl (hcf b3)) fun _ => ?_
  refine JL_pd rfl (det_not rfl) ?_
  refine JL_pd rfl (det_assign rfl) ?_
  refine JL_nil ?_
  refine JE_seq ?_
  refine JC_ret ?_
  -- stop: out
  refine JE_out (.inl rfl) () (results1 Tryz.results128 (res_tmp rfl)) (by simp [List.all_eq_not_any_not]) (List.Perm.refl _) (fun _ _ => trivial)

set_option maxRecDepth 100000 in
theorem indexFuncG_j (p : Gx → Bool) (F : Nat) (fs cs : List Value) (Kf : World → Prop) (eF : ∀ args w, (callFunc F args).run Tryz.prog w = .ok (.enter F args) w) (a : Option Addr) (cap : Nat) (xs : List Gx) (hF : ∀ x ∈ xs, Cv Tryz.prog F (fs ++ [.agg #[I x.g.fr, I x.g.lo, I x.g.hi, .slice x.a x.g.feet.length x.c]] ++ cs) Kf (.bool (p x))) (hl : xs.length ≤ 9223372036854775807) :
    Cv Tryz.prog 230 [.slice a xs.length cap, .func (.func F) fs.toArray cs.toArray] (KAnd (KSl a xs.length cap encG xs) Kf) (I (idxOf p xs)) := by
  refine Cx_of Tryz.func230 rfl Tryz.ntmps230 rfl fun w0 M0 => ?_
  refine JC_seq ?_
  refine JC_region ?_
  refine JL_pd rfl (det_assign rfl) ?_
  refine JL_nil ?_
  refine JE_seq ?_
  refine JC_seq ?_
  refine JC_seq ?_
  refine JC_region ?_
  refine JL_pd rfl (det_move rfl) ?_
  refine JL_pd rfl (det_len rfl Tryz.runUnderlying88) ?_
  refine JL_pd rfl (det_move rfl) ?_
  refine JL_nil ?_
  refine JE_seq ?_
  refine JC_block ?_
  -- stop: loop
  refine JC_loopF (γ := Nat) (fun i => i ≤ xs.length ∧ (xs.take i).any p = false) (fun i => [(8, I i)]) (fun _ => []) (fun i => xs.length - i) 0 ⟨Nat.zero_le _, rfl⟩ (stsub_consI rfl rfl stsub_nil) ht_nil ?_
  rintro i ⟨hi, hno⟩ K hK
  dsimp only [List.cons_append, List.nil_append]
  refine JC_seq ?_
  refine JC_region ?_
  refine JL_pd rfl (det_lss rfl rfl) ?_
  refine JL_nil ?_
  refine JE_seq ?_
  refine JC_seq ?_
  -- stop: cond
  refine JC_if rfl (fun h1 => ?_) (fun h1 => ?_)
  · have hi2 : i < xs.length := by omega
    refine JC_skip ?_
    refine JE_seq ?_
    refine JC_seq ?_
    refine JC_block ?_
    refine JC_seq ?_
    refine JC_region ?_
    refine JL_pd rfl (det_move rfl) ?_
    refine JL_pd rfl (det_assign rfl) ?_
    refine JL_nil ?_
    refine JE_seq ?_
    refine JC_seq ?_
    refine JC_region ?_
    refine JL_pd rfl (det_move rfl) ?_
    refine JL_pd rfl (det_move rfl) ?_
    refine JL_pd rfl (det_move rfl) ?_
    refine JL_dt rfl (det_indexAddr rfl rfl (by first | rfl | omega) (by first | assumption | omega | decide) Tryz.runUnderlying88 Tryz.sizeOf179) ?_
    refine JL_dt rfl (det_loadEA rfl (by first | assumption | omega | decide) Tryz.isAgg179 Tryz.sizeOf179 rfl rfl rfl) ?_
    -- stop: op  5 t16 := (call (Call (value t11) (t15) (179)))   <0 4>   109
    refine JL_step rfl rfl rfl (jo_callv rfl rfl eF rfl (hF xs[i] (List.getElem_mem hi2))) fun _ => ?_
    refine JL_nil ?_
    refine JE_seq ?_
    -- stop: cond
    refine JC_cond rfl (fun h2 => ?_) (fun h2 => ?_)
    · refine JC_seq ?_
      refine JC_region ?_
      refine JL_pd rfl (det_move rfl) ?_
      refine JL_pd rfl (det_assign rfl) ?_
      refine JL_nil ?_
      refine JE_seq ?_
      refine JC_ret ?_
      refine JE_block_ret ?_
      refine JE_seq_ret ?_
      refine JE_then_ret ?_
      refine JE_block_ret ?_
      refine JE_seq_ret ?_
      -- stop: out
      refine JE_out (.inl rfl) () (results1 Tryz.results230 (res_tmp rfl)) (by rw [idxOf_hit hi2 hno h2]) (List.Perm.refl _) (fun _ _ => trivial)
    · refine JC_skip ?_
      refine JE_block ?_
      refine JE_seq ?_
      refine JC_region ?_
      refine JL_pd rfl (det_add rfl rfl ⟨by omega, by omega⟩) ?_
      refine JL_pd rfl (det_move rfl) ?_
      refine JL_nil ?_
      -- stop: end
      refine JE_roundF hK (i + 1) ⟨by omega, by rw [take_snoc hi2, List.any_append, hno]; simp [h2]⟩ (by omega) (stsub_consI rfl (by omega) stsub_nil) ht_nil
  · refine JC_exit ?_
    refine JE_seq_exit ?_
    refine JE_then_exit ?_
    refine JE_block_here ?_
    refine JE_seq ?_
    refine JC_seq ?_
    refine JC_region ?_
    refine JL_pd rfl (det_assign rfl) ?_
    refine JL_nil ?_
    refine JE_seq ?_
    refine JC_ret ?_
    -- stop: out
    obtain rfl : i = xs.length := by omega
    rw [List.take_length] at hno
    refine JE_out (.inl rfl) () (results1 Tryz.results230 (res_tmp rfl)) (by rw [idxOf_none hno]) (List.Perm.refl _) (fun _ _ => trivial)
theorem containsFuncG_j (p : Gx → Bool) (F : Nat) (fs cs : List Value) (Kf : World → Prop) (eF : ∀ args w, (callFunc F args).run Tryz.prog w = .ok (.enter F args) w) (a : Option Addr) (cap : Nat) (xs : List Gx) (hF : ∀ x ∈ xs, Cv Tryz.prog F (fs ++ [.agg #[I x.g.fr, I x.g.lo, I x.g.hi, .slice x.a x.g.feet.length x.c]] ++ cs) Kf (.bool (p x))) (hl : xs.length ≤ 9223372036854775807) :
    Cv Tryz.prog 212 [.slice a xs.length cap, .func (.func F) fs.toArray cs.toArray] (KAnd (KSl a xs.length cap encG xs) Kf) (.bool (xs.any p)) := by
  refine Cx_of Tryz.func212 rfl Tryz.ntmps212 rfl fun w0 M0 => ?_
  refine JC_seq ?_
  refine JC_region ?_
  refine JL_pd rfl (det_assign rfl) ?_
  refine JL_nil ?_
  refine JE_seq ?_
  refine JC_seq ?_
  refine JC_region ?_
  refine JL_pd rfl (det_move rfl) ?_
  refine JL_pd rfl (det_move rfl) ?_
  -- stop: op  2 t7 := (call (Call (value f230) (t5 t6) (88 273)))   <0 1>   125
  refine JL_step rfl rfl rfl (jo_callv rfl rfl Tryz.call230 rfl (indexFuncG_j p F fs cs Kf eF a cap xs hF hl)) fun _ => ?_
  refine JL_pd rfl (det_geq rfl rfl) ?_
  refine JL_pd rfl (det_assign rfl) ?_
  refine JL_nil ?_
  refine JE_seq ?_
  refine JC_ret ?_
  -- stop: out
  refine JE_out (.inl rfl) () (results1 Tryz.results212 (res_tmp rfl)) (by rw [show decide ((0 : Int) ≤ idxOf p xs) = xs.any p from idxOf_any]) (List.Perm.refl _) (fun _ _ => trivial)
theorem allG_1 (p : Gx → Bool) (F : Nat) (fs cs : List Value) (Kf : World → Prop) (eF : ∀ args w, (callFunc F args).run Tryz.prog w = .ok (.enter F args) w) (x : Gx) (hF : Cv Tryz.prog F (fs ++ [.agg #[I x.g.fr, I x.g.lo, I x.g.hi, .slice x.a x.g.feet.length x.c]] ++ cs) Kf (.bool (p x))) (b : Nat) :
    Cv Tryz.prog 213 [.agg #[I x.g.fr, I x.g.lo, I x.g.hi, .slice x.a x.g.feet.length x.c], .pointer (some ⟨b, 0, none⟩)] (KAnd (KBox b [.func (.func F) fs.toArray cs.toArray]) Kf) (.bool (!p x)) := by
  refine Cx_of Tryz.func213 rfl Tryz.ntmps213 rfl fun w0 M0 => ?_
  refine JC_seq ?_
  refine JC_region ?_
  refine JL_step rfl rfl rfl (jo_box rfl rfl) fun b2 => ?_
  refine JL_pd rfl (det_assign rfl) ?_
  refine JL_nil ?_
  refine JE_seq ?_
  refine JC_seq ?_
  refine JC_region ?_
  refine JL_dt rfl (det_loadK rfl Tryz.isAgg273 rfl) ?_
  refine JL_dt rfl (det_loadKA rfl Tryz.isAgg179 Tryz.sizeOf179 rfl rfl) ?_
  -- stop: op  2 t6 := (call (Call (value t4) (t5) (179)))   <0 1>   36
  refine JL_step rfl rfl rfl (jo_callv rfl rfl eF rfl (hF)) fun _ => ?_
  refine JL_pd rfl (det_not rfl) ?_
  refine JL_pd rfl (det_assign rfl) ?_
  refine JL_nil ?_
  refine JE_seq ?_
  refine JC_ret ?_
  -- stop: out
  refine JE_out (.inl rfl) () (results1 Tryz.results213 (res_tmp rfl)) rfl (List.Perm.refl _) (fun _ _ => trivial)
theorem allG_j (p : Gx → Bool) (F : Nat) (fs cs : List Value) (Kf : World → Prop) (eF : ∀ args w, (callFunc F args).run Tryz.prog w = .ok (.enter F args) w) (a : Option Addr) (cap : Nat) (xs : List Gx) (hF : ∀ x ∈ xs, Cv Tryz.prog F (fs ++ [.agg #[I x.g.fr, I x.g.lo, I x.g.hi, .slice x.a x.g.feet.length x.c]] ++ cs) Kf (.bool (p x))) (hl : xs.length ≤ 9223372036854775807) :
    Cv Tryz.prog 162 [.slice a xs.length cap, .func (.func F) fs.toArray cs.toArray] (KAnd (KSl a xs.length cap encG xs) Kf) (.bool (xs.all p)) := by
  have hcf := fun b3 : Nat => containsFuncG_j (fun x => !p x) 213 [] [.pointer (some ⟨b3, 0, none⟩)] _ Tryz.call213 a cap xs (fun x hx => allG_1 p F fs cs Kf eF x (hF x hx) b3) hl
  refine Cx_of Tryz.func162 rfl Tryz.ntmps162 rfl fun w0 M0 => ?_
  refine JC_seq ?_
  refine JC_region ?_
  refine JL_step rfl rfl rfl (jo_box rfl rfl) fun b3 => ?_
  refine JL_pd rfl (det_assign rfl) ?_
  refine JL_nil ?_
  refine JE_seq ?_
  refine JC_seq ?_
  refine JC_region ?_
  refine JL_pd rfl (det_move rfl) ?_
  refine JL_pd rfl (det_makeFuncE rfl rfl) ?_
  -- stop: op  2 t7 := (call (Call (value f212) (t5 t6) (88 273)))   <0 1>   36
  refine JL_keep b3 noFp ?_
  refine JL_step rfl rfl rfl (jo_callv rfl rfl Tryz.call212 rfl (hcf b3)) fun _ => ?_
  refine JL_pd rfl (det_not rfl) ?_
  refine JL_pd rfl (det_assign rfl) ?_
  refine JL_nil ?_
  refine JE_seq ?_
  refine JC_ret ?_
  -- stop: out
  refine JE_out (.inl rfl) () (results1 Tryz.results162 (res_tmp rfl)) (by simp [List.all_eq_not_any_not]) (List.Perm.refl _) (fun _ _ => trivial)
theorem few_j (x : Gx) : Cv Tryz.prog 163 [.agg #[I x.g.fr, I x.g.lo, I x.g.hi, .slice x.a x.g.feet.length x.c]] KTrue (.bool (few x.g)) := by
  refine Cx_of Tryz.func163 rfl Tryz.ntmps163 rfl fun w0 M0 => ?_
  refine JC_seq ?_
  refine JC_region ?_
  refine JL_step rfl rfl rfl (jo_box rfl rfl) fun b1 => ?_
  refine JL_pd rfl (det_assign rfl) ?_
  refine JL_nil ?_
  refine JE_seq ?_
  refine JC_seq ?_
  refine JC_region ?_
  refine JL_pd rfl (det_fieldAddr rfl fo_179_2) ?_
  refine JL_dt rfl (det_loadK rfl Tryz.isAgg31 rfl) ?_
  refine JL_pd rfl (det_len rfl Tryz.runUnderlying31) ?_
  refine JL_pd rfl (det_leq rfl rfl) ?_
  refine JL_pd rfl (det_assign rfl) ?_
  refine JL_nil ?_
  refine JE_seq ?_
  refine JC_ret ?_
  refine JE_out (.inl rfl) () (results1 Tryz.results163 (res_tmp rfl)) ?_ (List.Perm.refl _) (fun _ _ => trivial)
  (simp only [few]; congr 1; exact decide_eq_decide.2 (by omega))
theorem valid_j (x : Gx) : Cv Tryz.prog 164 [.agg #[I x.g.fr, I x.g.lo, I x.g.hi, .slice x.a x.g.feet.length x.c]] (KSl x.a x.g.feet.length x.c encI x.g.feet) (.bool (grOk x.g)) := by
  refine Cx_of Tryz.func164 rfl Tryz.ntmps164 rfl fun w0 M0 => ?_
  refine JC_seq ?_
  refine JC_region ?_
  refine JL_step rfl rfl rfl (jo_box rfl rfl) fun b1 => ?_
  refine JL_pd rfl (det_assign rfl) ?_
  refine JL_nil ?_
  refine JE_seq ?_
  refine JC_seq ?_
  refine JC_region ?_
  refine JL_pd rfl (det_fieldAddr rfl fo_179_0) ?_
  refine JL_dt rfl (det_loadK rfl Tryz.isAgg3 rfl) ?_
  refine JL_step rfl rfl rfl (jo_callv rfl rfl Tryz.call214 rfl (hour_j _)) fun _ => ?_
  refine JL_pd rfl (det_move rfl) ?_
  -- stop: guard 3
  refine JL_pure (p := x.g.feet.length ≤ 9223372036854775807) (by intro w h; exact h.1.bd) fun hz => ?_
  refine JL_join1 28 2 (.bool (grOk x.g)) (fun hj => ?_) ?_
  · refine JL_split (d0 := 6) rfl (fun q1 => ?_) (fun q1 => ?_)
    · refine JL_guard rfl rfl q1 ?_
      refine JL_pd rfl (det_fieldAddr rfl fo_179_0) ?_
      refine JL_guard rfl rfl q1 ?_
      refine JL_dt rfl (det_loadK rfl Tryz.isAgg3 rfl) ?_
      refine JL_guard rfl rfl q1 ?_
      refine JL_pd rfl (det_fieldAddr rfl fo_179_1) ?_
      refine JL_guard rfl rfl q1 ?_
      refine JL_pd rfl (det_fieldAddr rfl fo_177_0) ?_
      refine JL_guard rfl rfl q1 ?_
      refine JL_dt rfl (det_loadK rfl Tryz.isAgg3 rfl) ?_
      refine JL_guard rfl rfl q1 ?_
      refine JL_pd rfl (det_leq rfl rfl) ?_
      refine JL_pd rfl (det_pick_t rfl q1 rfl) ?_
      refine JL_pd rfl (det_move rfl) ?_
      refine JL_split (d0 := 14) rfl (fun q2 => ?_) (fun q2 => ?_)
      · refine JL_guard rfl rfl q2 ?_
        refine JL_pd rfl (det_fieldAddr rfl fo_179_1) ?_
        refine JL_guard rfl rfl q2 ?_
        refine JL_pd rfl (det_fieldAddr rfl fo_177_0) ?_
        refine JL_guard rfl rfl q2 ?_
        refine JL_dt rfl (det_loadK rfl Tryz.isAgg3 rfl) ?_
        refine JL_guard rfl rfl q2 ?_
        refine JL_pd rfl (det_fieldAddr rfl fo_179_1) ?_
        refine JL_guard rfl rfl q2 ?_
        refine JL_pd rfl (det_fieldAddr rfl fo_177_1) ?_
        refine JL_guard rfl rfl q2 ?_
        refine JL_dt rfl (det_loadK rfl Tryz.isAgg3 rfl) ?_
        refine JL_guard rfl rfl q2 ?_
        refine JL_pd rfl (det_leq rfl rfl) ?_
        refine JL_pd rfl (det_pick_t rfl q2 rfl) ?_
        refine JL_pd rfl (det_move rfl) ?_
        refine JL_split (d0 := 23) rfl (fun q3 => ?_) (fun q3 => ?_)
        · refine JL_guard rfl rfl q3 ?_
          refine JL_pd rfl (det_fieldAddr rfl fo_179_1) ?_
          refine JL_guard rfl rfl q3 ?_
          refine JL_pd rfl (det_fieldAddr rfl fo_177_1) ?_
          refine JL_guard rfl rfl q3 ?_
          refine JL_dt rfl (det_loadK rfl Tryz.isAgg3 rfl) ?_
          refine JL_guard rfl rfl q3 ?_
          refine JL_step rfl rfl rfl (jo_callv rfl rfl Tryz.call214 rfl (hour_j _)) fun _ => ?_
          refine JL_pd rfl (det_pick_t rfl q3 rfl) ?_
          refine JL_pd rfl (det_move rfl) ?_
          refine JL_split (d0 := 29) rfl (fun q4 => ?_) (fun q4 => ?_)
          · refine JL_guard rfl rfl q4 ?_
            refine JL_pd rfl (det_fieldAddr rfl fo_179_2) ?_
            refine JL_guard rfl rfl q4 ?_
            refine JL_dt rfl (det_loadK rfl Tryz.isAgg31 rfl) ?_
            refine JL_guard rfl rfl q4 ?_
            refine JL_step rfl rfl rfl (jo_callv rfl rfl Tryz.call128 rfl (allI_j (fun n => inI n 0 9) 129 [] [] KTrue Tryz.call129 (fun x => size_j x) _ _ x.g.feet (by omega))) fun _ => ?_
            refine JL_pd rfl (det_pick_t rfl q4 rfl) ?_
            refine JL_pd rfl (det_assign rfl) ?_
            exact hj (by kernel_rfl) (stsub_consB rfl (by clear hj; first | rfl | (simp only [grOk, q1, q2, q3, q4, Bool.and_true, Bool.true_and, Bool.false_and, Bool.and_false, Bool.or_true, Bool.true_or, Bool.or_false, Bool.false_or, Bool.not_true, Bool.not_false]; done) | (simp [grOk, q1, q2, q3, q4]; done) | (simp [grOk] at q1; done) | (simp [grOk] at q2; done) | (simp [grOk] at q3; done) | (simp [grOk] at q4; done) | (simp [grOk, q1, q2, q3, q4] <;> omega) | (exfalso; simp [grOk] at q1 q2 q3 q4; omega) | (simp [q2, q3, q4, grOk] at q1; done) | (simp [q1, q3, q4, grOk] at q2; done) | (simp [q1, q2, q4, grOk] at q3; done) | (simp [q1, q2, q3, grOk] at q4; done)) stsub_nil)
          · refine JL_skip rfl rfl q4 rfl ?_
            refine JL_skip rfl rfl q4 rfl ?_
            refine JL_skip rfl rfl q4 rfl ?_
            refine JL_pd rfl (det_pick_f rfl q4 rfl) ?_
            refine JL_pd rfl (det_assign rfl) ?_
            exact hj (by kernel_rfl) (stsub_consB rfl (by clear hj; first | rfl | (simp only [grOk, q1, q2, q3, q4, Bool.and_true, Bool.true_and, Bool.false_and, Bool.and_false, Bool.or_true, Bool.true_or, Bool.or_false, Bool.false_or, Bool.not_true, Bool.not_false]; done) | (simp [grOk, q1, q2, q3, q4]; done) | (simp [grOk] at q1; done) | (simp [grOk] at q2; done) | (simp [grOk] at q3; done) | (simp [grOk] at q4; done) | (simp [grOk, q1, q2, q3, q4] <;> omega) | (exfalso; simp [grOk] at q1 q2 q3 q4; omega) | (simp [q2, q3, q4, grOk] at q1; done) | (simp [q1, q3, q4, grOk] at q2; done) | (simp [q1, q2, q4, grOk] at q3; done) | (simp [q1, q2, q3, grOk] at q4; done)) stsub_nil)
        · refine JL_skip rfl rfl q3 rfl ?_
          refine JL_skip rfl rfl q3 rfl ?_
          refine JL_skip rfl rfl q3 rfl ?_
          refine JL_skip rfl rfl q3 rfl ?_
          refine JL_pd rfl (det_pick_f rfl q3 rfl) ?_
          refine JL_pd rfl (det_move rfl) ?_
          refine JL_skip rfl rfl rfl rfl ?_
          refine JL_skip rfl rfl rfl rfl ?_
          refine JL_skip rfl rfl rfl rfl ?_
          refine JL_pd rfl (det_pick_f rfl rfl rfl) ?_
          refine JL_pd rfl (det_assign rfl) ?_
          exact hj (by kernel_rfl) (stsub_consB rfl (by clear hj; first | rfl | (simp only [grOk, q1, q2, q3, Bool.and_true, Bool.true_and, Bool.false_and, Bool.and_false, Bool.or_true, Bool.true_or, Bool.or_false, Bool.false_or, Bool.not_true, Bool.not_false]; done) | (simp [grOk, q1, q2, q3]; done) | (simp [grOk] at q1; done) | (simp [grOk] at q2; done) | (simp [grOk] at q3; done) | (simp [grOk, q1, q2, q3] <;> omega) | (exfalso; simp [grOk] at q1 q2 q3; omega) | (simp [q2, q3, grOk] at q1; done) | (simp [q1, q3, grOk] at q2; done) | (simp [q1, q2, grOk] at q3; done)) stsub_nil)
      · refine JL_skip rfl rfl q2 rfl ?_
        refine JL_skip rfl rfl q2 rfl ?_
        refine JL_skip rfl rfl q2 rfl ?_
        refine JL_skip rfl rfl q2 rfl ?_
        refine JL_skip rfl rfl q2 rfl ?_
        refine JL_skip rfl rfl q2 rfl ?_
        refine JL_skip rfl rfl q2 rfl ?_
        refine JL_pd rfl (det_pick_f rfl q2 rfl) ?_
        refine JL_pd rfl (det_move rfl) ?_
        refine JL_skip rfl rfl rfl rfl ?_
        refine JL_skip rfl rfl rfl rfl ?_
        refine JL_skip rfl rfl rfl rfl ?_
        refine JL_skip rfl rfl rfl rfl ?_
        refine JL_pd rfl (det_pick_f rfl rfl rfl) ?_
        refine JL_pd rfl (det_move rfl) ?_
        refine JL_skip rfl rfl rfl rfl ?_
        refine JL_skip rfl rfl rfl rfl ?_
        refine JL_skip rfl rfl rfl rfl ?_
        refine JL_pd rfl (det_pick_f rfl rfl rfl) ?_
        refine JL_pd rfl (det_assign rfl) ?_
        exact hj (by kernel_rfl) (stsub_consB rfl (by clear hj; first | rfl | (simp only [grOk, q1, q2, Bool.and_true, Bool.true_and, Bool.false_and, Bool.and_false, Bool.or_true, Bool.true_or, Bool.or_false, Bool.false_or, Bool.not_true, Bool.not_false]; done) | (simp [grOk, q1, q2]; done) | (simp [grOk] at q1; done) | (simp [grOk] at q2; done) | (simp [grOk, q1, q2] <;> omega) | (exfalso; simp [grOk] at q1 q2; omega) | (simp [q2, grOk] at q1; done) | (simp [q1, grOk] at q2; done)) stsub_nil)
    · refine JL_skip rfl rfl q1 rfl ?_
      refine JL_skip rfl rfl q1 rfl ?_
      refine JL_skip rfl rfl q1 rfl ?_
      refine JL_skip rfl rfl q1 rfl ?_
      refine JL_skip rfl rfl q1 rfl ?_
      refine JL_skip rfl rfl q1 rfl ?_
      refine JL_pd rfl (det_pick_f rfl q1 rfl) ?_
      refine JL_pd rfl (det_move rfl) ?_
      refine JL_skip rfl rfl rfl rfl ?_
      refine JL_skip rfl rfl rfl rfl ?_
      refine JL_skip rfl rfl rfl rfl ?_
      refine JL_skip rfl rfl rfl rfl ?_
      refine JL_skip rfl rfl rfl rfl ?_
      refine JL_skip rfl rfl rfl rfl ?_
      refine JL_skip rfl rfl rfl rfl ?_
      refine JL_pd rfl (det_pick_f rfl rfl rfl) ?_
      refine JL_pd rfl (det_move rfl) ?_
      refine JL_skip rfl rfl rfl rfl ?_
      refine JL_skip rfl rfl rfl rfl ?_
      refine JL_skip rfl rfl rfl rfl ?_
      refine JL_skip rfl rfl rfl rfl ?_
      refine JL_pd rfl (det_pick_f rfl rfl rfl) ?_
      refine JL_pd rfl (det_move rfl) ?_
      refine JL_skip rfl rfl rfl rfl ?_
      refine JL_skip rfl rfl rfl rfl ?_
      refine JL_skip rfl rfl rfl rfl ?_
      refine JL_pd rfl (det_pick_f rfl rfl rfl) ?_
      refine JL_pd rfl (det_assign rfl) ?_
      exact hj (by kernel_rfl) (stsub_consB rfl (by clear hj; first | rfl | (simp only [grOk, q1, Bool.and_true, Bool.true_and, Bool.false_and, Bool.and_false, Bool.or_true, Bool.true_or, Bool.or_false, Bool.false_or, Bool.not_true, Bool.not_false]; done) | (simp [grOk, q1]; done) | (simp [grOk] at q1; done) | (simp [grOk, q1] <;> omega) | (exfalso; simp [grOk] at q1; omega)) stsub_nil)
  refine JL_nil ?_
  refine JE_seq ?_
  refine JC_ret ?_
  -- stop: out
  refine JE_out (.inl rfl) () (results1 Tryz.results164 (res_tmp rfl)) rfl (List.Perm.refl _) (fun _ _ => trivial)
theorem eqHs (h : Hs) : hsOk h = (inI h.lanes 0 5 && (decide (h.shoes.length = 10) && h.shoes.all fun n => inI n 0 20)) := rfl
theorem hvalid_j (x : Hx) : Cv Tryz.prog 127 [.agg #[I x.h.lanes, .slice x.a x.h.shoes.length x.c]] (KHx x) (.bool (hsOk x.h)) := by
  refine Cx_of Tryz.func127 rfl Tryz.ntmps127 rfl fun w0 M0 => ?_
  refine JC_seq ?_
  refine JC_region ?_
  refine JL_step rfl rfl rfl (jo_box rfl rfl) fun b1 => ?_
  refine JL_pd rfl (det_assign rfl) ?_
  refine JL_nil ?_
  refine JE_seq ?_
  refine JC_seq ?_
  refine JC_region ?_
  refine JL_pd rfl (det_fieldAddr rfl fo_86_0) ?_
  refine JL_dt rfl (det_loadK rfl Tryz.isAgg3 rfl) ?_
  refine JL_step rfl rfl rfl (jo_callv rfl rfl Tryz.call178 rfl (within_j _ _ _)) fun _ => ?_
  refine JL_pd rfl (det_move rfl) ?_
  -- stop: guard 3
  refine JL_pure (p := x.h.shoes.length ≤ 9223372036854775807) (by intro w h; exact h.1.bd) fun hz => ?_
  refine JL_join1 11 2 (.bool (inI x.h.lanes 0 5 && (decide ((x.h.shoes.length : Int) = 10) && x.h.shoes.all fun n => inI n 0 20))) (fun hj => ?_) ?_
  · refine JL_split (d0 := 6) rfl (fun q5 => ?_) (fun q5 => ?_)
    · refine JL_guard rfl rfl q5 ?_
      refine JL_pd rfl (det_fieldAddr rfl fo_86_1) ?_
      refine JL_guard rfl rfl q5 ?_
      refine JL_dt rfl (det_loadK rfl Tryz.isAgg31 rfl) ?_
      refine JL_guard rfl rfl q5 ?_
      refine JL_pd rfl (det_len rfl Tryz.runUnderlying31) ?_
      refine JL_guard rfl rfl q5 ?_
      refine JL_pd rfl (det_eql rfl rfl) ?_
      refine JL_pd rfl (det_pick_t rfl q5 rfl) ?_
      refine JL_pd rfl (det_move rfl) ?_
      refine JL_split (d0 := 12) rfl (fun q6 => ?_) (fun q6 => ?_)
      · refine JL_guard rfl rfl q6 ?_
        refine JL_pd rfl (det_fieldAddr rfl fo_86_1) ?_
        refine JL_guard rfl rfl q6 ?_
        refine JL_dt rfl (det_loadK rfl Tryz.isAgg31 rfl) ?_
        refine JL_guard rfl rfl q6 ?_
        refine JL_step rfl rfl rfl (jo_callv rfl rfl Tryz.call128 rfl (allI_j (fun n => inI n 0 20) 179 [] [] KTrue Tryz.call179 (fun x => pairs_j x) _ _ x.h.shoes (by omega))) fun _ => ?_
        refine JL_pd rfl (det_pick_t rfl q6 rfl) ?_
        refine JL_pd rfl (det_assign rfl) ?_
        exact hj (by kernel_rfl) (stsub_consB rfl (by clear hj; first | rfl | (simp only [q5, q6, Bool.and_true, Bool.true_and, Bool.false_and, Bool.and_false, Bool.or_true, Bool.true_or, Bool.or_false, Bool.false_or, Bool.not_true, Bool.not_false]; done) | (simp [q5, q6]; done) | (simp at q5; done) | (simp at q6; done) | (simp [q5, q6] <;> omega) | (exfalso; simp at q5 q6; omega) | (simp [q6] at q5; done) | (simp [q5] at q6; done)) stsub_nil)
      · refine JL_skip rfl rfl q6 rfl ?_
        refine JL_skip rfl rfl q6 rfl ?_
        refine JL_skip rfl rfl q6 rfl ?_
        refine JL_pd rfl (det_pick_f rfl q6 rfl) ?_
        refine JL_pd rfl (det_assign rfl) ?_
        exact hj (by kernel_rfl) (stsub_consB rfl (by clear hj; first | rfl | (simp only [q5, q6, Bool.and_true, Bool.true_and, Bool.false_and, Bool.and_false, Bool.or_true, Bool.true_or, Bool.or_false, Bool.false_or, Bool.not_true, Bool.not_false]; done) | (simp [q5, q6]; done) | (simp at q5; done) | (simp at q6; done) | (simp [q5, q6] <;> omega) | (exfalso; simp at q5 q6; omega) | (simp [q6] at q5; done) | (simp [q5] at q6; done)) stsub_nil)
    · refine JL_skip rfl rfl q5 rfl ?_
      refine JL_skip rfl rfl q5 rfl ?_
      refine JL_skip rfl rfl q5 rfl ?_
      refine JL_skip rfl rfl q5 rfl ?_
      refine JL_pd rfl (det_pick_f rfl q5 rfl) ?_
      refine JL_pd rfl (det_move rfl) ?_
      refine JL_skip rfl rfl rfl rfl ?_
      refine JL_skip rfl rfl rfl rfl ?_
      refine JL_skip rfl rfl rfl rfl ?_
      refine JL_pd rfl (det_pick_f rfl rfl rfl) ?_
      refine JL_pd rfl (det_assign rfl) ?_
      exact hj (by kernel_rfl) (stsub_consB rfl (by clear hj; first | rfl | (simp only [q5, Bool.and_true, Bool.true_and, Bool.false_and, Bool.and_false, Bool.or_true, Bool.true_or, Bool.or_false, Bool.false_or, Bool.not_true, Bool.not_false]; done) | (simp [q5]; done) | (simp at q5; done) | (simp [q5] <;> omega) | (exfalso; simp at q5; omega)) stsub_nil)
  refine JL_nil ?_
  refine JE_seq ?_
  refine JC_ret ?_
  -- stop: out
  refine JE_out (.inl rfl) () (results1 Tryz.results127 (res_tmp rfl)) (by rw [eqHs, show decide ((x.h.shoes.length : Int) = 10) = decide (x.h.shoes.length = 10) from decide_eq_decide.2 (by omega)]) (List.Perm.refl _) (fun _ _ => trivial)
set_option maxRecDepth 100000 in
theorem CheckGroups_j (x : Hx) (a : Option Addr) (c : Nat) (xs : List Gx) : Cv Tryz.prog 122 [.agg #[I x.h.lanes, .slice x.a x.h.shoes.length x.c], .slice a xs.length c] (KAnd (KHx x) (KGs a c xs)) (I (fault x.h (gs xs))) := by
  refine Cx_of Tryz.func122 rfl Tryz.ntmps122 rfl fun w0 M0 => ?_
  refine JC_seq ?_
  refine JC_region ?_
  refine JL_step rfl rfl rfl (jo_box rfl rfl) fun b2 => ?_
  refine JL_pd rfl (det_assign rfl) ?_
  refine JL_nil ?_
  refine JE_seq ?_
  refine JC_seq ?_
  refine JC_block ?_
  refine JC_seq ?_
  refine JC_region ?_
  refine JL_dt rfl (det_loadKA rfl Tryz.isAgg86 Tryz.sizeOf86 rfl rfl) ?_
  -- stop: op  1 t7 := (call (Call (value f127) (t6) (86)))   <0>   63
  refine JL_pure (p := xs.length ≤ 9223372036854775807) (by intro w h; exact h.2.1.1.bd) fun hz => ?_
  have e1 : (gs xs).all few = xs.all fun x => few x.g := by simp [gs]; rfl
  have e2 : (gs xs).all grOk = xs.all fun x => grOk x.g := by simp [gs]; rfl
  have e3 : (gs xs).length = xs.length := List.length_map _
  have e4 : fault x.h (gs xs) = if hsOk x.h = false then 1 else if 8 < xs.length ∨ (xs.all fun x => few x.g) = false then 3 else if (xs.all fun x => grOk x.g) = false then 1 else 0 := by unfold fault; rw [e1, e2, e3]
  refine JL_step rfl rfl rfl (jo_callv rfl rfl Tryz.call127 rfl (hvalid_j x)) fun _ => ?_
  refine JL_pd rfl (det_not rfl) ?_
  refine JL_pd rfl (det_assign rfl) ?_
  refine JL_nil ?_
  refine JE_seq ?_
  -- stop: cond
  refine JC_cond rfl (fun h1 => ?_) (fun h1 => ?_)
  · simp only [Bool.not_eq_true'] at h1
    refine JC_seq ?_
    refine JC_region ?_
    refine JL_pd rfl (det_assign rfl) ?_
    refine JL_nil ?_
    refine JE_seq ?_
    refine JC_ret ?_
    refine JE_block_ret ?_
    refine JE_seq_ret ?_
    -- stop: out
    refine JE_out (.inl rfl) () (results1 Tryz.results122 (res_tmp rfl)) (by rw [e4, if_pos h1]) (List.Perm.refl _) (fun _ _ => trivial)
  · simp only [Bool.not_eq_false'] at h1
    refine JC_seq ?_
    refine JC_region ?_
    refine JL_pd rfl (det_move rfl) ?_
    refine JL_pd rfl (det_len rfl Tryz.runUnderlying88) ?_
    refine JL_pd rfl (det_gtr rfl rfl) ?_
    refine JL_pd rfl (det_move rfl) ?_
    -- stop: guard 3
    refine JL_join1 5 9 (.bool (decide ((8 : Int) < (xs.length : Int)) || !(xs.all fun x => few x.g))) (fun hj => ?_) ?_
    · refine JL_split (d0 := 13) rfl (fun q7 => ?_) (fun q7 => ?_)
      · refine JL_skip rfl rfl q7 rfl ?_
        refine JL_skip rfl rfl q7 rfl ?_
        refine JL_skip rfl rfl q7 rfl ?_
        refine JL_pd rfl (det_pick_t rfl q7 rfl) ?_
        refine JL_pd rfl (det_assign rfl) ?_
        exact hj (by kernel_rfl) (stsub_consB rfl (by clear hj; first | rfl | (simp only [q7, Bool.and_true, Bool.true_and, Bool.false_and, Bool.and_false, Bool.or_true, Bool.true_or, Bool.or_false, Bool.false_or, Bool.not_true, Bool.not_false]; done) | (simp [q7]; done) | (simp at q7; done) | (simp [q7] <;> omega) | (exfalso; simp at q7; omega)) stsub_nil)
      · refine JL_guard rfl rfl q7 ?_
        refine JL_pd rfl (det_move rfl) ?_
        refine JL_guard rfl rfl q7 ?_
        refine JL_step rfl rfl rfl (jo_callv rfl rfl Tryz.call162 rfl (allG_j (fun x => few x.g) 163 [] [] KTrue Tryz.call163 a c xs (fun x _ => few_j x) (by omega))) fun _ => ?_
        refine JL_guard rfl rfl q7 ?_
        refine JL_pd rfl (det_not rfl) ?_
        refine JL_pd rfl (det_pick_f rfl q7 rfl) ?_
        refine JL_pd rfl (det_assign rfl) ?_
        exact hj (by kernel_rfl) (stsub_consB rfl (by clear hj; first | rfl | (simp only [q7, Bool.and_true, Bool.true_and, Bool.false_and, Bool.and_false, Bool.or_true, Bool.true_or, Bool.or_false, Bool.false_or, Bool.not_true, Bool.not_false]; done) | (simp [q7]; done) | (simp at q7; done) | (simp [q7] <;> omega) | (exfalso; simp at q7; omega)) stsub_nil)
    refine JL_nil ?_
    refine JE_seq ?_
    -- stop: cond
    refine JC_cond rfl (fun h2 => ?_) (fun h2 => ?_)
    · simp only [Bool.or_eq_true, decide_eq_true_eq, Bool.not_eq_true'] at h2
      refine JC_seq ?_
      refine JC_region ?_
      refine JL_pd rfl (det_assign rfl) ?_
      refine JL_nil ?_
      refine JE_seq ?_
      refine JC_ret ?_
      refine JE_block_ret ?_
      refine JE_seq_ret ?_
      -- stop: out
      refine JE_out (.inl rfl) () (results1 Tryz.results122 (res_tmp rfl)) (by rw [e4, if_neg (by rw [h1]; decide), if_pos (h2.imp (by omega) id)]) (List.Perm.refl _) (fun _ _ => trivial)
    · simp only [Bool.or_eq_false_iff, decide_eq_false_iff_not, Bool.not_eq_false'] at h2
      refine JC_seq ?_
      refine JC_region ?_
      refine JL_pd rfl (det_move rfl) ?_
      refine JL_step rfl rfl rfl (jo_callv rfl rfl Tryz.call162 rfl (allG_j (fun x => grOk x.g) 164 [] [] (KFt xs) Tryz.call164 a c xs (fun x hx => (valid_j x).mono (fun w h => h x hx) (fun _ _ h => h)) (by omega))) fun _ => ?_
      refine JL_pd rfl (det_not rfl) ?_
      refine JL_pd rfl (det_assign rfl) ?_
      refine JL_nil ?_
      refine JE_seq ?_
      -- stop: cond
      refine JC_cond rfl (fun h3 => ?_) (fun h3 => ?_)
      · simp only [Bool.not_eq_true'] at h3
        refine JC_seq ?_
        refine JC_region ?_
        refine JL_pd rfl (det_assign rfl) ?_
        refine JL_nil ?_
        refine JE_seq ?_
        refine JC_ret ?_
        refine JE_block_ret ?_
        refine JE_seq_ret ?_
        -- stop: out
        refine JE_out (.inl rfl) () (results1 Tryz.results122 (res_tmp rfl)) (by rw [e4, if_neg (by rw [h1]; decide), if_neg (by rw [h2.2]; simp; omega), if_pos h3]) (List.Perm.refl _) (fun _ _ => trivial)
      · simp only [Bool.not_eq_false'] at h3
        refine JC_skip ?_
        refine JE_block ?_
        refine JE_seq ?_
        refine JC_seq ?_
        refine JC_region ?_
        refine JL_pd rfl (det_assign rfl) ?_
        refine JL_nil ?_
        refine JE_seq ?_
        refine JC_ret ?_
        -- stop: out
        refine JE_out (.inl rfl) () (results1 Tryz.results122 (res_tmp rfl)) (by rw [e4, if_neg (by rw [h1]; decide), if_neg (by rw [h2.2]; simp; omega), if_neg (by rw [h3]; decide)]) (List.Perm.refl _) (fun _ _ => trivial)
end Go.Proofs.YthpkgabckklojaaGreat.En

/- Walks of lend: hours, and a house at work. -/
namespace Go.Proofs.YthpkgabckklojaaGreat.En
open Go.RowKit Go.Shelf

abbrev Cell := Int × Int
def ekC (c : Cell) : Value := .agg #[I c.1, I c.2]
theorem chkC_run (n : Nat) (e : Bool) (a : Cell) (w : World) : (Instr.checkKey e (n + 2) 241 (ekC a)).run Tryz.prog w = .ok () w := by
  unfold ekC
  simp [Instr.checkKey, go_sem]
theorem goodC : GoodKey Tryz.prog 241 ekC := by
  refine GoodKey.of_struct Tryz.underlying241 (fun b k w => chkC_run 9998 b k w) (fun a b w => ?_) (fun k => ?_) (fun a b h => ?_)
  · show (Op.equalIn 10000 241 (.agg #[I a.1, I a.2]) (.agg #[I b.1, I b.2])).run Tryz.prog w = _
    rw [eqa_241]
    congr 1; exact decide_eq_decide.2 Prod.ext_iff.symm
  · show Instr.sameBits (9999 + 1) _ _ = true
    simp [ekC, Instr.sameBits]
  · simp [ekC] at h; exact Prod.ext_iff.2 h
/-- Who has a lane at an hour, as a map. -/
def tkM (t : Cell → Bool) : Cell → Option Bool := fun c => if t c = true then some true else none
def addT (t : Cell → Bool) (lane : Int) (p : List Int) : Cell → Bool := fun c => t c || (decide (lane = c.1) && decide (c.2 ∈ p))
theorem addT_nil (t : Cell → Bool) (lane : Int) : addT t lane [] = t := by funext c; simp [addT]
theorem addT_snoc (t : Cell → Bool) (lane : Int) (p : List Int) (x : Int) : upd (tkM (addT t lane p)) (lane, x) true = tkM (addT t lane (p ++ [x])) := by
  funext c
  obtain ⟨c1, c2⟩ := c
  unfold upd tkM addT
  by_cases h1 : lane = c1 <;> by_cases h2 : c2 = x
  · subst h1 h2; simp
  · subst h1
    rw [if_neg (fun e => h2 (Prod.ext_iff.1 e).2)]
    simp [h2]
  · rw [if_neg (fun e => h1 (Prod.ext_iff.1 e).1.symm)]; simp [h1]
  · rw [if_neg (fun e => h1 (Prod.ext_iff.1 e).1.symm)]; simp [h1]
theorem addT_hours (t : Cell → Bool) (lane : Int) (g : Gr) : addT t lane (hoursL g) = fun c => t c || (decide (lane = c.1) && stays g c.2) := by
  funext c
  unfold addT
  congr 2
  rw [Bool.eq_iff_iff, decide_eq_true_eq]; exact mem_hours
theorem tkM_get (t : Cell → Bool) (c : Cell) : (tkM t c).getD false = t c := by
  unfold tkM
  cases t c <;> rfl
theorem hours_get (g : Gr) (i : Nat) (h : i < (g.hi + 1 - g.fr).toNat) : (hoursL g).take (i + 1) = (hoursL g).take i ++ [g.fr + (i : Int)] := by
  have hl : i < (hoursL g).length := by rw [hoursL, List.length_map, List.length_range]; exact h
  rw [List.take_succ_eq_append_getElem hl]
  congr 2
  simp [hoursL]
theorem hours_all (g : Gr) {i : Nat} (h : (g.hi + 1 - g.fr).toNat ≤ i) : (hoursL g).take i = hoursL g := List.take_of_length_le (by rw [hoursL, List.length_map, List.length_range]; exact h)
theorem hours_j (x : Gx) : Cr Tryz.prog 126 [.agg #[I x.g.fr, I x.g.lo, I x.g.hi, .slice x.a x.g.feet.length x.c]] KTrue (fun b : Nat => .func (.func 177) #[] #[pt b]) (fun b => KBox b [I x.g.fr, I x.g.lo, I x.g.hi, .slice x.a x.g.feet.length x.c]) := by
  refine Cx_of Tryz.func126 rfl Tryz.ntmps126 rfl fun w0 M0 => ?_
  refine JC_seq ?_
  refine JC_region ?_
  refine JL_step rfl rfl rfl (jo_box rfl rfl) fun b1 => ?_
  refine JL_pd rfl (det_assign rfl) ?_
  refine JL_nil ?_
  refine JE_seq ?_
  refine JC_seq ?_
  refine JC_region ?_
  refine JL_keep b1 noFp ?_
  refine JL_pd rfl (det_makeFuncE rfl rfl) ?_
  refine JL_pd rfl (det_assign rfl) ?_
  refine JL_nil ?_
  refine JE_seq ?_
  refine JC_ret ?_
  -- stop: out
  refine JE_out (.inl rfl) b1 (results1 Tryz.results126 (res_tmp rfl)) rfl (List.Perm.refl _) (fun w h => h.1)
set_option maxRecDepth 100000 in
theorem hours_it (x : Gx) (b : Nat) (hV : VGr x.g) : Iter Tryz.prog 177 [pt b] encI (KBox b [I x.g.fr, I x.g.lo, I x.g.hi, .slice x.a x.g.feet.length x.c]) (hoursL x.g) := by
  intro l Rel J Jx c hJ hy
  have v1 := hV.f0
  have v2 := hV.fl
  have v3 := hV.lh
  have v4 := hV.h1
  refine Cx_of Tryz.func177 rfl Tryz.ntmps177 rfl fun w0 M0 => ?_
  refine JC_seq ?_
  refine JC_region ?_
  refine JL_pd rfl (det_fieldAddr rfl fo_179_0) ?_
  refine JL_dt rfl (det_loadK rfl Tryz.isAgg3 rfl) ?_
  refine JL_pd rfl (det_assign rfl) ?_
  refine JL_nil ?_
  refine JE_seq ?_
  refine JC_block ?_
  -- stop: loop
  refine JC_loopF (γ := Nat × Chunk) (fun q => q.1 ≤ (x.g.hi + 1 - x.g.fr).toNat ∧ J ((hoursL x.g).take q.1) q.2) (fun q => [(3, I (x.g.fr + q.1))]) (fun q => [q.2]) (fun q => (x.g.hi + 1 - x.g.fr).toNat - q.1) (0, c) ⟨Nat.zero_le _, by simpa using hJ⟩ (stsub_consI rfl (by simp) stsub_nil) (ht_cons ht_nil) ?_
  rintro ⟨i, c'⟩ ⟨hi, hJi⟩ K hK
  dsimp only [List.cons_append, List.nil_append] at hi hJi ⊢
  refine JC_seq ?_
  refine JC_seq ?_
  refine JC_region ?_
  refine JL_pd rfl (det_move rfl) ?_
  refine JL_pd rfl (det_fieldAddr rfl fo_179_1) ?_
  refine JL_pd rfl (det_fieldAddr rfl fo_177_1) ?_
  refine JL_dt rfl (det_loadK rfl Tryz.isAgg3 rfl) ?_
  refine JL_pd rfl (det_leq rfl rfl) ?_
  refine JL_nil ?_
  refine JE_seq ?_
  -- stop: cond
  refine JC_if rfl (fun h1 => ?_) (fun h1 => ?_)
  · have hi2 : i < (x.g.hi + 1 - x.g.fr).toNat := by omega
    have hsn := hours_get x.g i hi2
    have hpx : (hoursL x.g).take i ++ [x.g.fr + (i : Int)] <+: hoursL x.g := by rw [← hsn]; exact List.take_prefix _ _
    refine JC_skip ?_
    refine JE_seq ?_
    refine JC_seq ?_
    refine JC_block ?_
    refine JC_seq ?_
    refine JC_region ?_
    refine JL_pd rfl (det_move rfl) ?_
    refine JL_pd rfl (det_move rfl) ?_
    -- stop: op  2 t15 := (call (Call (value t13) (t14) (3)))   <0 1>   80
    refine JL_step rfl rfl rfl (jo_yield c' rfl rfl rfl (hy _ (x.g.fr + (i : Int)) c' hJi hpx)) fun y => ?_
    refine JL_pd rfl (det_not rfl) ?_
    refine JL_nil ?_
    refine JE_seq ?_
    -- stop: cond
    refine JC_pure (p := if y.1 = true then J _ y.2 else Jx _ y.2) (fun w h => h.1) fun hq => ?_
    refine JC_cond rfl (fun k3 => ?_) (fun k3 => ?_)
    · simp only [Bool.not_eq_true'] at k3
      rw [k3, if_neg (by decide)] at hq
      refine JC_ret ?_
      refine JE_block_ret ?_
      refine JE_seq_ret ?_
      refine JE_then_ret ?_
      refine JE_block_ret ?_
      -- stop: out
      refine JE_out (.inl rfl) (_, false, (hoursL x.g).take i ++ [x.g.fr + (i : Int)], y.2) (results0 Tryz.results177 ) rfl pick_perm (fun w h => by simp only [Bool.false_eq_true, if_false]; exact ⟨hpx, hq⟩)
    · simp only [Bool.not_eq_false'] at k3
      rw [k3, if_pos rfl] at hq
      refine JC_skip ?_
      refine JE_block ?_
      refine JE_seq ?_
      refine JC_region ?_
      refine JL_pd rfl (det_move rfl) ?_
      refine JL_pd rfl (det_add rfl rfl ⟨by omega, by omega⟩) ?_
      refine JL_pd rfl (det_assign rfl) ?_
      refine JL_nil ?_
      -- stop: end
      refine JE_roundF hK (i + 1, y.2) ⟨by simp only; omega, by simp only; rw [hsn]; exact hq⟩ (by simp only; omega) (stsub_consI rfl (by simp only; omega) stsub_nil) (ht_cons ht_nil)
  · refine JC_exit ?_
    refine JE_seq_exit ?_
    refine JE_then_exit ?_
    refine JE_block_here ?_
    -- stop: out
    rw [hours_all x.g (by omega)] at hJi
    refine JE_out (.inr rfl) (_, true, [], c') (results0 Tryz.results177 ) rfl pick_perm (fun w h => by rw [if_pos rfl]; exact hJi)

/-- A house at work, as cells. -/
def wkC (x : Hx) (a : Option Addr) (n c mb : Nat) : List Value := [I x.h.lanes, .slice x.a x.h.shoes.length x.c, .slice a n c, .map (some mb)]
theorem work_je (x : Hx) (a : Option Addr) (c : Nat) (xs : List Gx) (h : fault x.h (gs xs) ≠ 0) : Cv Tryz.prog 77 [.agg #[I x.h.lanes, .slice x.a x.h.shoes.length x.c], .slice a xs.length c] (KAnd (KHx x) (KGs a c xs)) (.tuple #[.pointer none, I (fault x.h (gs xs))]) := by
  refine Cx_of Tryz.func77 rfl Tryz.ntmps77 rfl fun w0 M0 => ?_
  refine JC_seq ?_
  refine JC_region ?_
  refine JL_step rfl rfl rfl (jo_box rfl rfl) fun b2 => ?_
  refine JL_pd rfl (det_assign rfl) ?_
  refine JL_pd rfl (det_assign rfl) ?_
  refine JL_nil ?_
  refine JE_seq ?_
  refine JC_seq ?_
  refine JC_seq ?_
  refine JC_region ?_
  refine JL_dt rfl (det_loadKA rfl Tryz.isAgg86 Tryz.sizeOf86 rfl rfl) ?_
  refine JL_pd rfl (det_move rfl) ?_
  refine JL_step rfl rfl rfl (jo_callv rfl rfl Tryz.call122 rfl (CheckGroups_j x a c xs)) fun _ => ?_
  refine JL_pd rfl (det_assign rfl) ?_
  refine JL_nil ?_
  refine JE_seq ?_
  refine JC_seq ?_
  refine JC_region ?_
  refine JL_pd rfl (det_move rfl) ?_
  refine JL_pd rfl (det_neq rfl rfl) ?_
  refine JL_nil ?_
  refine JE_seq ?_
  -- stop: cond
  refine JC_ifn rfl (fun h1 => ?_) (fun h1 => ?_)
  · refine JC_seq ?_
    refine JC_region ?_
    refine JL_pd rfl (det_move rfl) ?_
    refine JL_pd rfl (det_assign rfl) ?_
    refine JL_pd rfl (det_assign rfl) ?_
    refine JL_nil ?_
    refine JE_seq ?_
    refine JC_ret ?_
    refine JE_seq_ret ?_
    -- stop: out
    refine JE_out (.inl rfl) () (results2 Tryz.results77 (res_tmp rfl) (res_tmp rfl)) rfl (List.Perm.refl _) (fun _ _ => trivial)
  · exact absurd h1 h
set_option maxRecDepth 100000 in
theorem work_jo (x : Hx) (a : Option Addr) (c : Nat) (xs : List Gx) (h : fault x.h (gs xs) = 0) : Cx Tryz.prog 77 [.agg #[I x.h.lanes, .slice x.a x.h.shoes.length x.c], .slice a xs.length c] [] (KAnd (KHx x) (KGs a c xs)) (fun q : Nat × Nat => .tuple #[pt q.1, I 0]) (fun q => [mp q.2 ekC vB (tkM fun _ => false)]) (fun q => KBox q.1 (wkC x a xs.length c q.2)) := by
  refine Cx_of Tryz.func77 rfl Tryz.ntmps77 rfl fun w0 M0 => ?_
  refine JC_seq ?_
  refine JC_region ?_
  refine JL_step rfl rfl rfl (jo_box rfl rfl) fun b2 => ?_
  refine JL_pd rfl (det_assign rfl) ?_
  refine JL_pd rfl (det_assign rfl) ?_
  refine JL_nil ?_
  refine JE_seq ?_
  refine JC_seq ?_
  refine JC_seq ?_
  refine JC_region ?_
  refine JL_dt rfl (det_loadKA rfl Tryz.isAgg86 Tryz.sizeOf86 rfl rfl) ?_
  refine JL_pd rfl (det_move rfl) ?_
  refine JL_step rfl rfl rfl (jo_callv rfl rfl Tryz.call122 rfl (CheckGroups_j x a c xs)) fun _ => ?_
  refine JL_pd rfl (det_assign rfl) ?_
  refine JL_nil ?_
  refine JE_seq ?_
  refine JC_seq ?_
  refine JC_region ?_
  refine JL_pd rfl (det_move rfl) ?_
  refine JL_pd rfl (det_neq rfl rfl) ?_
  refine JL_nil ?_
  refine JE_seq ?_
  -- stop: cond
  refine JC_ifn rfl (fun h1 => ?_) (fun h1 => ?_)
  · exact absurd h h1
  · refine JC_skip ?_
    refine JE_seq ?_
    refine JC_seq ?_
    refine JC_region ?_
    refine JL_dt rfl (det_loadKA rfl Tryz.isAgg86 Tryz.sizeOf86 rfl rfl) ?_
    refine JL_pd rfl (det_move rfl) ?_
    refine JL_step rfl rfl rfl (jo_makeMap ekC vB) fun b15 => ?_
    refine JL_pd rfl (det_build rfl (bld_231_0_1_2 _ _ _ _ _ _ _ _)) ?_
    refine JL_step rfl rfl rfl (jo_box rfl rfl) fun b17 => ?_
    refine JL_pd rfl (det_assign rfl) ?_
    refine JL_pd rfl (det_assign rfl) ?_
    refine JL_nil ?_
    refine JE_seq ?_
    refine JC_ret ?_
    -- stop: out
    refine JE_keep b17 noFp ?_
    refine JE_out (.inl rfl) (b17, b15) (results2 Tryz.results77 (res_tmp rfl) (res_tmp rfl)) rfl (by exact List.Perm.refl _) (fun w h => h.1)
set_option maxRecDepth 100000 in
theorem take_j (x : Gx) (b mb : Nat) (hx : Hx) (a : Option Addr) (n c : Nat) (t : Cell → Bool) (lane : Int) (hV : VGr x.g) : Cx Tryz.prog 82 [pt b, .agg #[I x.g.fr, I x.g.lo, I x.g.hi, .slice x.a x.g.feet.length x.c], I lane] [mp mb ekC vB (tkM t)] (KBox b (wkC hx a n c mb)) (fun _ : Unit => .tuple #[]) (fun _ => [mp mb ekC vB (tkM (addT t lane (hoursL x.g)))]) (fun _ => KTrue) := by
  unfold wkC
  refine Cx_of Tryz.func82 rfl Tryz.ntmps82 rfl fun w0 M0 => ?_
  refine JC_seq ?_
  refine JC_region ?_
  refine JL_step rfl rfl rfl (jo_box rfl rfl) fun b3 => ?_
  refine JL_step rfl rfl rfl (jo_box rfl rfl) fun b4 => ?_
  refine JL_step rfl rfl rfl (jo_box rfl rfl) fun b5 => ?_
  refine JL_nil ?_
  refine JE_seq ?_
  refine JC_seq ?_
  refine JC_region ?_
  refine JL_dt rfl (det_loadKA rfl Tryz.isAgg179 Tryz.sizeOf179 rfl rfl) ?_
  refine JL_step rfl rfl rfl (jo_call rfl rfl Tryz.call126 rfl (hours_j x)) fun x8 => ?_
  refine JL_nil ?_
  refine JE_seq ?_
  refine JC_block ?_
  -- stop: rangeFunc
  have hit := hours_it x x8 hV
  refine JC_rangeI (γ := Unit × List Int) (β := Nat) rfl rfl rfl rfl Tryz.call177 hit (perm1 (mp mb ekC vB (tkM t))) (fun w _ h => h.1) (fun _ => rfl) ?_
    (fun p q => q.2 = p) (fun _ _ _ => False) (fun q => [mp mb ekC vB (tkM (addT t lane q.2))]) ((), []) rfl (by rw [addT_nil])
    (fun x t => [(6, I x), (3, pt b3), (5, pt b5)]) (fun _ _ => []) ?_ ?_ ?_ ?_
  · show ∀ p ∈ [9], p < 17
    decide
  · intro l' x W K0 hK0
    refine JC_region ?_
    refine JL_pd rfl (det_assign rfl) ?_
    refine JL_nil ?_
    -- stop: end
    exact JE_asg (hK0 0) (stsub_cons rfl (stsub_cons rfl (stsub_cons rfl stsub_nil))) hsub_nil (fun _ h => trivial)
  · rintro l' p x ⟨_, q⟩ t W K1 QX hq hpx hK1 _
    obtain rfl : q = p := hq
    refine JC_block ?_
    refine JC_draw [7] (by kernel_rfl) ?_
    refine JA_dt (i := 0) rfl (by kernel_rfl) (by kernel_rfl) rfl rfl (det_loadK rfl Tryz.isAgg173 rfl) ?_
    refine JA_pd (i := 1) rfl (by kernel_rfl) rfl rfl (det_nilCheck rfl) ?_
    refine JA_pd (i := 2) rfl (by kernel_rfl) rfl rfl (det_fieldAddr rfl fo_231_2) ?_
    refine JA_dt (i := 3) rfl (by kernel_rfl) (by kernel_rfl) rfl rfl (det_loadK rfl Tryz.isAgg229 rfl) ?_
    refine JA_dt (i := 4) rfl (by kernel_rfl) (by kernel_rfl) rfl rfl (det_loadK rfl Tryz.isAgg3 rfl) ?_
    refine JA_pd (i := 5) rfl (by kernel_rfl) rfl rfl (det_move rfl) ?_
    refine JA_pd (i := 6) rfl (by kernel_rfl) rfl rfl (det_build rfl (bld_241_0_1 _ _)) ?_
    refine JA_tail (i := 7) (by kernel_rfl) rfl rfl rfl rfl (jo_mapUpdate (ek := ekC) (ev := vB) (lane, x) true (.inl rfl) rfl rfl rfl goodC Tryz.underlying229) fun _ => ?_
    refine JT_done (by kernel_rfl) ?_
    refine JE_block ?_
    -- stop: end
    exact JE_next (fun st' R' a' W' => hK1 ((), q ++ [x]) rfl st' R' a' W') (by rw [← addT_snoc]; exact hsub_cons hsub_nil)
  · rintro ⟨_, q⟩ hq
    obtain rfl : q = hoursL x.g := hq
    refine JE_block ?_
    -- stop: out
    refine JE_out (.inr rfl) () (results0 Tryz.results82 ) rfl pick_perm (fun _ _ => trivial)
  · rintro cd p q _ h
    exact h.elim
end Go.Proofs.YthpkgabckklojaaGreat.En

/- Walks of lend: a slice of so many times the same. -/
namespace Go.Proofs.YthpkgabckklojaaGreat.En
open Go.RowKit Go.Shelf

theorem and_small (n : Nat) (h : n ≤ 100) : IntKind.u64.wrap ((BitVec.ofInt IntKind.u64.bits (n : Int) &&& BitVec.ofInt IntKind.u64.bits 4294967295).toNat : Int) = n := by
  have : ∀ k : Fin 101, IntKind.u64.wrap ((BitVec.ofInt IntKind.u64.bits ((k.1 : Nat) : Int) &&& BitVec.ofInt IntKind.u64.bits 4294967295).toNat : Int) = ((k.1 : Nat) : Int) := by decide +kernel
  exact this ⟨n, by omega⟩
theorem shr_small (n : Nat) (h : n ≤ 100) : (n : Int).fdiv (2 ^ min (32 : Int).toNat IntKind.u64.bits) = 0 := by
  have : ∀ k : Fin 101, ((k.1 : Nat) : Int).fdiv (2 ^ min (32 : Int).toNat IntKind.u64.bits) = 0 := by decide +kernel
  exact this ⟨n, by omega⟩
theorem w_small (n : Nat) (h : n ≤ 100) : IntKind.u64.wrap (n : Int) = n := by
  simp [IntKind.wrap, IntKind.bits, IntKind.signed]; omega
abbrev U (n : Int) : Value := .int .u64 n
set_option maxRecDepth 100000 in
theorem Mul64_j (n : Nat) (h : n ≤ 100) : Cv Tryz.prog 176 [U 1, U n] KTrue (.tuple #[U 0, U n]) := by
  have a1 := and_small n h
  have s1 := shr_small n h
  have w1 := w_small n h
  refine Cx_of Tryz.func176 rfl Tryz.ntmps176 rfl fun w0 M0 => ?_
  refine JC_seq ?_
  refine JC_region ?_
  refine JL_pd rfl (det_assign rfl) ?_
  refine JL_pd rfl (det_assign rfl) ?_
  refine JL_nil ?_
  refine JE_seq ?_
  refine JC_seq ?_
  refine JC_region ?_
  refine JL_pd rfl (det_move rfl) ?_
  refine JL_pd rfl (det_andR 1 rfl rfl (by decide)) ?_
  refine JL_pd rfl (det_assign rfl) ?_
  refine JL_nil ?_
  refine JE_seq ?_
  refine JC_seq ?_
  refine JC_region ?_
  refine JL_pd rfl (det_move rfl) ?_
  refine JL_pd rfl (det_shrR 0 rfl rfl (by decide) (by decide)) ?_
  refine JL_pd rfl (det_assign rfl) ?_
  refine JL_nil ?_
  refine JE_seq ?_
  refine JC_seq ?_
  refine JC_region ?_
  refine JL_pd rfl (det_move rfl) ?_
  refine JL_pd rfl (det_andR (n : Int) rfl rfl a1) ?_
  refine JL_pd rfl (det_assign rfl) ?_
  refine JL_nil ?_
  refine JE_seq ?_
  refine JC_seq ?_
  refine JC_region ?_
  refine JL_pd rfl (det_move rfl) ?_
  refine JL_pd rfl (det_shrR 0 rfl rfl (by decide) s1) ?_
  refine JL_pd rfl (det_assign rfl) ?_
  refine JL_nil ?_
  refine JE_seq ?_
  refine JC_seq ?_
  refine JC_region ?_
  refine JL_pd rfl (det_move rfl) ?_
  refine JL_pd rfl (det_move rfl) ?_
  refine JL_pd rfl (det_mulR (n : Int) rfl rfl (by rw [Int.one_mul]; exact w1)) ?_
  refine JL_pd rfl (det_assign rfl) ?_
  refine JL_nil ?_
  refine JE_seq ?_
  refine JC_seq ?_
  refine JC_region ?_
  refine JL_pd rfl (det_move rfl) ?_
  refine JL_pd rfl (det_move rfl) ?_
  refine JL_pd rfl (det_mulR 0 rfl rfl (by rw [Int.zero_mul]; decide)) ?_
  refine JL_pd rfl (det_move rfl) ?_
  refine JL_pd rfl (det_shrR 0 rfl rfl (by decide) s1) ?_
  refine JL_pd rfl (det_addR 0 rfl rfl (by decide)) ?_
  refine JL_pd rfl (det_assign rfl) ?_
  refine JL_nil ?_
  refine JE_seq ?_
  refine JC_seq ?_
  refine JC_region ?_
  refine JL_pd rfl (det_move rfl) ?_
  refine JL_pd rfl (det_andR 0 rfl rfl (by decide)) ?_
  refine JL_pd rfl (det_assign rfl) ?_
  refine JL_nil ?_
  refine JE_seq ?_
  refine JC_seq ?_
  refine JC_region ?_
  refine JL_pd rfl (det_move rfl) ?_
  refine JL_pd rfl (det_shrR 0 rfl rfl (by decide) (by decide)) ?_
  refine JL_pd rfl (det_assign rfl) ?_
  refine JL_nil ?_
  refine JE_seq ?_
  refine JC_seq ?_
  refine JC_region ?_
  refine JL_pd rfl (det_move rfl) ?_
  refine JL_pd rfl (det_move rfl) ?_
  refine JL_pd rfl (det_move rfl) ?_
  refine JL_pd rfl (det_mulR 0 rfl rfl (by decide)) ?_
  refine JL_pd rfl (det_addR 0 rfl rfl (by decide)) ?_
  refine JL_pd rfl (det_assign rfl) ?_
  refine JL_nil ?_
  refine JE_seq ?_
  refine JC_seq ?_
  refine JC_region ?_
  refine JL_pd rfl (det_move rfl) ?_
  refine JL_pd rfl (det_move rfl) ?_
  refine JL_pd rfl (det_mulR 0 rfl rfl (by decide)) ?_
  refine JL_pd rfl (det_move rfl) ?_
  refine JL_pd rfl (det_addR 0 rfl rfl (by decide)) ?_
  refine JL_pd rfl (det_move rfl) ?_
  refine JL_pd rfl (det_shrR 0 rfl rfl (by decide) (by decide)) ?_
  refine JL_pd rfl (det_addR 0 rfl rfl (by decide)) ?_
  refine JL_pd rfl (det_assign rfl) ?_
  refine JL_nil ?_
  refine JE_seq ?_
  refine JC_seq ?_
  refine JC_region ?_
  refine JL_pd rfl (det_move rfl) ?_
  refine JL_pd rfl (det_move rfl) ?_
  refine JL_pd rfl (det_mulR (n : Int) rfl rfl (by rw [Int.one_mul]; exact w1)) ?_
  refine JL_pd rfl (det_assign rfl) ?_
  refine JL_nil ?_
  refine JE_seq ?_
  refine JC_ret ?_
  -- stop: out
  refine JE_out (.inl rfl) () (results2 Tryz.results176 (res_tmp rfl) (res_tmp rfl)) rfl (List.Perm.refl _) (fun _ _ => trivial)
set_option maxRecDepth 100000 in
theorem Mul_j (n : Nat) (h : n ≤ 100) : Cv Tryz.prog 125 [U 1, U n] KTrue (.tuple #[U 0, U n]) := by
  refine Cx_of Tryz.func125 rfl Tryz.ntmps125 rfl fun w0 M0 => ?_
  refine JC_seq ?_
  refine JC_region ?_
  refine JL_pd rfl (det_assign rfl) ?_
  refine JL_pd rfl (det_assign rfl) ?_
  refine JL_nil ?_
  refine JE_seq ?_
  refine JC_seq ?_
  refine JC_condF rfl rfl ?_
  refine JC_skip ?_
  refine JE_seq ?_
  refine JC_seq ?_
  refine JC_region ?_
  refine JL_pd rfl (det_move rfl) ?_
  refine JL_pd rfl (det_move rfl) ?_
  refine JL_step rfl rfl rfl (jo_callv rfl rfl Tryz.call176 rfl (Mul64_j n h)) fun _ => ?_
  refine JL_pd rfl (det_move rfl) ?_
  refine JL_pd rfl (det_extract rfl rfl) ?_
  refine JL_pd rfl (det_extract rfl rfl) ?_
  refine JL_pd rfl (det_assign rfl) ?_
  refine JL_pd rfl (det_assign rfl) ?_
  refine JL_nil ?_
  refine JE_seq ?_
  refine JC_seq ?_
  refine JC_region ?_
  refine JL_pd rfl (det_move rfl) ?_
  refine JL_pd rfl (det_move rfl) ?_
  refine JL_pd rfl (det_assign rfl) ?_
  refine JL_pd rfl (det_assign rfl) ?_
  refine JL_nil ?_
  refine JE_seq ?_
  refine JC_ret ?_
  -- stop: out
  refine JE_out (.inl rfl) () (results2 Tryz.results125 (res_tmp rfl) (res_tmp rfl)) rfl (List.Perm.refl _) (fun _ _ => trivial)
theorem rep_step (n k kk : Nat) (v u : Value) (hk : k + kk ≤ n) (h : kk ≤ k) : splice (List.replicate k v ++ List.replicate (n - k) u) k (((List.replicate k v ++ List.replicate (n - k) u).drop 0).take (kk * 1)) = List.replicate (k + kk) v ++ List.replicate (n - (k + kk)) u := by
    rw [List.drop_zero, Nat.mul_one, List.take_append_of_le_length (by rw [List.length_replicate]; omega), List.take_replicate, Nat.min_eq_left (by omega)]
    have e : List.replicate (n - k) u = List.replicate kk u ++ List.replicate (n - (k + kk)) u := by rw [List.replicate_append_replicate]; congr 1; omega
    have := splice_at (List.replicate kk v) (List.replicate k v) (List.replicate kk u) (List.replicate (n - (k + kk)) u) (by simp)
    rw [List.length_replicate] at this
    rw [e, ← List.append_assoc, this, List.replicate_append_replicate]
set_option maxRecDepth 100000 in
theorem Repeat_j (n : Nat) (h : n ≤ 100) (a : Option Addr) (cap : Nat) (v : Int) : Cx Tryz.prog 81 [.slice a 1 cap, I n] [] (KSl a 1 cap encI [v]) (fun b : Nat => .slice (some ⟨b, 0, none⟩) n n) (fun b => [ow (.slice (some ⟨b, 0, none⟩) n n) 3 1 n (List.replicate n (I v))]) (fun _ => KTrue) := by
  have hmc : (madeCells (Value.cells (I 0)) (n * 1)).toList = List.replicate n (I 0) := by
    rw [Nat.mul_one]
    refine List.eq_replicate_iff.2 ⟨by simp [madeCells], fun x hx => ?_⟩
    simp only [madeCells, Value.cells] at hx
    simp at hx
    obtain ⟨i, _, rfl⟩ := hx
    simp [Nat.mod_one]
  have hcs : splice (madeCells (Value.cells (I 0)) (n * 1)).toList 0 ((([v] : List Int).flatMap encI).take (Nat.min 1 n * 1)) = List.replicate (Nat.min 1 n) (I v) ++ List.replicate (n - Nat.min 1 n) (I 0) := by
    rw [hmc]
    cases n with
    | zero => rfl
    | succ n =>
      rw [show Nat.min 1 (n + 1) = 1 from Nat.min_eq_left (by omega), List.replicate_succ]
      rfl
  have hml : (madeCells (Value.cells (I 0)) (n * 1)).toList.length = n := by rw [hmc, List.length_replicate]
  have hm1 : Nat.min 1 n ≤ n := Nat.min_le_right _ _
  refine Cx_of Tryz.func81 rfl Tryz.ntmps81 rfl fun w0 M0 => ?_
  refine JC_seq ?_
  refine JC_region ?_
  refine JL_pd rfl (det_assign rfl) ?_
  refine JL_nil ?_
  refine JE_seq ?_
  refine JC_seq ?_
  refine JC_seq ?_
  refine JC_region ?_
  refine JL_pd rfl (det_move rfl) ?_
  refine JL_pd rfl (det_lss rfl rfl) ?_
  refine JL_nil ?_
  refine JE_seq ?_
  -- stop: cond
  refine JC_if rfl (fun h1 => ?_) (fun h1 => ?_)
  · exfalso; omega
  refine JC_skip ?_
  refine JE_seq ?_
  refine JC_seq ?_
  refine JC_region ?_
  refine JL_pd rfl (det_move rfl) ?_
  refine JL_pd rfl (det_len rfl Tryz.runUnderlying31) ?_
  refine JL_pd rfl (det_convI (n := 1) rfl Tryz.runUnderlying3 Tryz.runUnderlying234 (by decide)) ?_
  refine JL_pd rfl (det_move rfl) ?_
  refine JL_pd rfl (det_convI rfl Tryz.runUnderlying3 Tryz.runUnderlying234 (w_small n h)) ?_
  refine JL_step rfl rfl rfl (jo_callv rfl rfl Tryz.call125 rfl (Mul_j n (by omega))) fun _ => ?_
  refine JL_pd rfl (det_move rfl) ?_
  refine JL_pd rfl (det_extract rfl rfl) ?_
  refine JL_pd rfl (det_extract rfl rfl) ?_
  refine JL_pd rfl (det_assign rfl) ?_
  refine JL_pd rfl (det_assign rfl) ?_
  refine JL_nil ?_
  refine JE_seq ?_
  refine JC_seq ?_
  refine JC_seq ?_
  refine JC_region ?_
  refine JL_pd rfl (det_move rfl) ?_
  refine JL_pd rfl (det_gtr rfl rfl) ?_
  refine JL_pd rfl (det_move rfl) ?_
  -- stop: guard 2
  refine JL_join1 3 26 (.bool false) (fun hj => ?_) ?_
  · refine JL_split (d0 := 23) rfl (fun q1 => ?_) (fun q1 => ?_)
    · refine JL_skip rfl rfl q1 rfl ?_
      refine JL_skip rfl rfl q1 rfl ?_
      refine JL_pd rfl (det_pick_t rfl q1 rfl) ?_
      exact hj (by kernel_rfl) (stsub_consB rfl (by clear hj; first | rfl | (simp only [q1, Bool.and_true, Bool.true_and, Bool.false_and, Bool.and_false, Bool.or_true, Bool.true_or, Bool.or_false, Bool.false_or, Bool.not_true, Bool.not_false]; done) | (simp [q1]; done) | (simp at q1; done) | (simp [q1] <;> omega) | (exfalso; simp at q1; omega)) stsub_nil)
    · refine JL_guard rfl rfl q1 ?_
      refine JL_pd rfl (det_move rfl) ?_
      refine JL_guard rfl rfl q1 ?_
      refine JL_pd rfl (det_gtr rfl rfl) ?_
      refine JL_pd rfl (det_pick_f rfl q1 rfl) ?_
      exact hj (by kernel_rfl) (stsub_consB rfl (by clear hj; first | rfl | (simp only [q1, Bool.and_true, Bool.true_and, Bool.false_and, Bool.and_false, Bool.or_true, Bool.true_or, Bool.or_false, Bool.false_or, Bool.not_true, Bool.not_false]; done) | (simp [q1]; done) | (simp at q1; done) | (simp [q1] <;> omega) | (exfalso; simp at q1; omega)) stsub_nil)
  refine JL_nil ?_
  refine JE_seq ?_
  refine JC_condF rfl rfl ?_
  refine JC_skip ?_
  refine JE_seq ?_
  refine JC_seq ?_
  refine JC_region ?_
  refine JL_pd rfl (det_move rfl) ?_
  refine JL_pd rfl (det_convI rfl Tryz.runUnderlying234 Tryz.runUnderlying3 (i64_wrap ⟨by omega, by omega⟩)) ?_
  refine JL_step rfl rfl rfl (jo_makeSlice (n := n) (zv := I 0) (z := 1) (bytes := 8) rfl rfl rfl Tryz.underlying31 (by kernel_rfl) (by omega) (by omega)) fun b30 => ?_
  refine JL_pd rfl (det_assign rfl) ?_
  refine JL_nil ?_
  refine JE_seq ?_
  refine JC_seq ?_
  refine JC_region ?_
  refine JL_pd rfl (det_move rfl) ?_
  refine JL_pd rfl (det_move rfl) ?_
  refine JL_step rfl rfl rfl (jo_copyKO (e := encI) (Nat.min 1 n) (List.replicate (Nat.min 1 n) (I v) ++ List.replicate (n - Nat.min 1 n) (I 0)) rfl rfl Tryz.runUnderlying31 Tryz.sizeOf3 rfl hcs (by rw [hml]; omega) (fun _ => rfl)) fun b33 => ?_
  refine JL_pd rfl (det_assign rfl) ?_
  refine JL_nil ?_
  refine JE_seq ?_
  refine JC_seq ?_
  refine JC_block ?_
  -- stop: loop
  refine JC_loopF (γ := Nat) (fun k => k ≤ n ∧ (0 < k ∨ n = 0)) (fun k => [(8, I k)]) (fun k => [ow (.slice (some ⟨b30, 0, none⟩) n n) 3 1 n (List.replicate k (I v) ++ List.replicate (n - k) (I 0))]) (fun k => n - k) (Nat.min 1 n) ⟨hm1, by rcases Nat.eq_zero_or_pos n with h | h; exact .inr h; exact .inl (by rw [show Nat.min 1 n = 1 from Nat.min_eq_left h]; decide)⟩ (stsub_consI rfl rfl stsub_nil) (ht_cons ht_nil) ?_
  rintro k ⟨hk, hk0⟩ K hK
  dsimp only [List.cons_append, List.nil_append]
  refine JC_seq ?_
  refine JC_seq ?_
  refine JC_region ?_
  refine JL_pd rfl (det_move rfl) ?_
  refine JL_pd rfl (det_move rfl) ?_
  refine JL_pd rfl (det_len rfl Tryz.runUnderlying31) ?_
  refine JL_pd rfl (det_lss rfl rfl) ?_
  refine JL_nil ?_
  refine JE_seq ?_
  -- stop: cond
  refine JC_if rfl (fun h3 => ?_) (fun h3 => ?_)
  · have hk2 : k < n := by omega
    have hkk : Nat.min k (n - k) ≤ k := Nat.min_le_left _ _
    have hkn : Nat.min k (n - k) ≤ n - k := Nat.min_le_right _ _
    have hkp : 0 < Nat.min k (n - k) := Nat.lt_min.2 ⟨by omega, by omega⟩
    have hst := rep_step n k (Nat.min k (n - k)) (I v) (I 0) (by omega) hkk
    have hln : (List.replicate k (I v) ++ List.replicate (n - k) (I 0)).length = n := by rw [List.length_append, List.length_replicate, List.length_replicate]; omega
    refine JC_skip ?_
    refine JE_seq ?_
    refine JC_block ?_
    refine JC_draw [7] (by kernel_rfl) ?_
    refine JA_pd (i := 0) rfl (by kernel_rfl) rfl rfl (det_move rfl) ?_
    refine JA_pd (i := 1) rfl (by kernel_rfl) rfl rfl (det_move rfl) ?_
    refine JA_pd (i := 2) rfl (by kernel_rfl) rfl rfl (det_move rfl) ?_
    refine JA_pd (i := 3) rfl (by kernel_rfl) rfl rfl (det_sliceFO k rfl rfl rfl hk2 Tryz.runUnderlying31 Tryz.sizeOf3) ?_
    refine JA_pd (i := 4) rfl (by kernel_rfl) rfl rfl (det_move rfl) ?_
    refine JA_pd (i := 5) rfl (by kernel_rfl) rfl rfl (det_move rfl) ?_
    refine JA_pd (i := 6) rfl (by kernel_rfl) rfl rfl (det_sliceK k rfl rfl rfl (by omega) Tryz.runUnderlying31 Tryz.sizeOf3) ?_
    refine JA_tail (i := 7) (by kernel_rfl) rfl rfl rfl rfl (jo_copyO (soff := 0) (doff := k * 1) (z := 1) (Nat.min k (n - k)) (List.replicate (k + Nat.min k (n - k)) (I v) ++ List.replicate (n - (k + Nat.min k (n - k))) (I 0)) rfl rfl Tryz.runUnderlying31 Tryz.sizeOf3 rfl (by rw [Nat.mul_one]; exact hst) (by rw [hln]; omega) (by rw [hln]; omega) (fun x hx => by rcases List.mem_append.1 hx with h | h <;> rw [List.eq_of_mem_replicate h] <;> rfl)) fun b45 => ?_
    refine JT_pd (i := 8) rfl (by kernel_rfl) rfl rfl (det_add rfl rfl ⟨by omega, by omega⟩) ?_
    refine JT_pd (i := 9) rfl (by kernel_rfl) rfl rfl (det_assign rfl) ?_
    refine JT_done (by kernel_rfl) ?_
    refine JE_block ?_
    -- stop: end
    refine JE_roundF hK (k + Nat.min k (n - k)) ⟨by omega, .inl (by omega)⟩ (by omega) (stsub_consI rfl (by omega) stsub_nil) (ht_cons ht_nil)
  · obtain rfl : k = n := by omega
    refine JC_exit ?_
    refine JE_seq_exit ?_
    refine JE_then_exit ?_
    refine JE_block_here ?_
    refine JE_seq ?_
    refine JC_seq ?_
    refine JC_region ?_
    refine JL_pd rfl (det_move rfl) ?_
    refine JL_pd rfl (det_assign rfl) ?_
    refine JL_nil ?_
    refine JE_seq ?_
    refine JC_ret ?_
    -- stop: out
    refine JE_out (.inl rfl) b30 (results1 Tryz.results81 (res_tmp rfl)) rfl (by simp only [Nat.sub_self, List.replicate_zero, List.append_nil]; exact pick_perm) (fun _ _ => trivial)
end Go.Proofs.YthpkgabckklojaaGreat.En

/-
  DERIVED: THE SHELF's CONTRACTS AT THIS DUMP, IN PLAIN WORDS (tools/lay-plain.mjs out of 'Shs.lean', which tools/lay-shelf.mjs wrote): THE SAME DECLARATIONS UNDER THE SAME NAMES: 'import', 'namespace', 'open', 'def', 'theorem' AND NOTHING ELSE: no command of the shelf's: FOR A HAND-IN. Each laying: the table of numbers ('.._ren') and one theorem, a field a fact of the dump's own or the kernel's comparison; each contract: ONE APPLICATION.
-/
namespace Go.Proofs.YthpkgabckklojaaGreat
open Go.Shelf Go.Proofs
def Tryz.sortI_ren : Go.Shelf.Ren := ⟨fun | 6 => 78 | 15 => 124 | 14 => 123 | 28 => 173 | 29 => 174 | 20 => 165 | 21 => 166 | 22 => 167 | 23 => 168 | 24 => 169 | 25 => 170 | 26 => 171 | 27 => 172 | 46 => 215 | 47 => 216 | 48 => 217 | 49 => 218 | 50 => 219 | 57 => 231 | n => n, fun | 22 => 31 | 24 => 3 | 25 => 180 | 3 => 3 | 39 => 234 | 0 => 0 | 53 => 283 | 55 => 285 | 4 => 4 | 46 => 276 | 45 => 275 | 50 => 280 | 5 => 5 | 9 => 9 | 66 => 300 | 70 => 304 | 76 => 313 | 77 => 270 | n => n, fun | n => n⟩
theorem Tryz.sortI : Go.Proofs.SlLaysF.n6 Tryz.prog Tryz.sortI_ren := {
  mixed := by kernel_rfl
  f6 := ⟨Tryz.f78.name, by decide, Tryz.func78.trans (congrArg some (by kernel_rfl))⟩
  f14 := ⟨Tryz.f123.name, by decide, Tryz.func123.trans (congrArg some (by kernel_rfl))⟩
  f15 := Tryz.func124.trans (congrArg some (by kernel_rfl))
  f20 := ⟨Tryz.f165.name, by decide, Tryz.func165.trans (congrArg some (by kernel_rfl))⟩
  f21 := ⟨Tryz.f166.name, by decide, Tryz.func166.trans (congrArg some (by kernel_rfl))⟩
  f22 := ⟨Tryz.f167.name, by decide, Tryz.func167.trans (congrArg some (by kernel_rfl))⟩
  f23 := ⟨Tryz.f168.name, by decide, Tryz.func168.trans (congrArg some (by kernel_rfl))⟩
  f24 := ⟨Tryz.f169.name, by decide, Tryz.func169.trans (congrArg some (by kernel_rfl))⟩
  f25 := ⟨Tryz.f170.name, by decide, Tryz.func170.trans (congrArg some (by kernel_rfl))⟩
  f26 := ⟨Tryz.f171.name, by decide, Tryz.func171.trans (congrArg some (by kernel_rfl))⟩
  f27 := ⟨Tryz.f172.name, by decide, Tryz.func172.trans (congrArg some (by kernel_rfl))⟩
  f28 := Tryz.func173.trans (congrArg some (by kernel_rfl))
  f29 := Tryz.func174.trans (congrArg some (by kernel_rfl))
  f46 := ⟨Tryz.f215.name, by decide, Tryz.func215.trans (congrArg some (by kernel_rfl))⟩
  f47 := Tryz.func216.trans (congrArg some (by kernel_rfl))
  f48 := Tryz.func217.trans (congrArg some (by kernel_rfl))
  f49 := ⟨Tryz.f218.name, by decide, Tryz.func218.trans (congrArg some (by kernel_rfl))⟩
  f50 := ⟨Tryz.f219.name, by decide, Tryz.func219.trans (congrArg some (by kernel_rfl))⟩
  f57 := ⟨Tryz.f231.name, by decide, Tryz.func231.trans (congrArg some (by kernel_rfl))⟩
  t0 := Tryz.underlying0
  a0 := Tryz.isAgg0
  z0 := Tryz.sizeOf0
  v0 := Tryz.zeroValue0
  t3 := Tryz.underlying3
  a3 := Tryz.isAgg3
  z3 := Tryz.sizeOf3
  v3 := Tryz.zeroValue3
  t4 := Tryz.underlying4
  a4 := Tryz.isAgg4
  z4 := Tryz.sizeOf4
  v4 := Tryz.zeroValue4
  t5 := Tryz.underlying5
  a5 := Tryz.isAgg5
  z5 := Tryz.sizeOf5
  v5 := Tryz.zeroValue5
  t9 := Tryz.underlying9
  a9 := Tryz.isAgg9
  z9 := Tryz.sizeOf9
  v9 := Tryz.zeroValue9
  t22 := Tryz.underlying31
  a22 := Tryz.isAgg31
  z22 := Tryz.sizeOf31
  v22 := Tryz.zeroValue31
  a24 := Tryz.isAgg3
  z24 := Tryz.sizeOf3
  t25 := Tryz.underlying180
  a25 := Tryz.isAgg180
  z25 := Tryz.sizeOf180
  v25 := Tryz.zeroValue180
  t39 := Tryz.underlying234
  a39 := Tryz.isAgg234
  z39 := Tryz.sizeOf234
  v39 := Tryz.zeroValue234
  t45 := Tryz.underlying275
  a45 := Tryz.isAgg275
  z45 := Tryz.sizeOf275
  v45 := Tryz.zeroValue275
  t46 := Tryz.underlying276
  a46 := Tryz.isAgg276
  z46 := Tryz.sizeOf276
  v46 := Tryz.zeroValue276
  t50 := Tryz.underlying280
  a50 := Tryz.isAgg280
  z50 := Tryz.sizeOf280
  v50 := Tryz.zeroValue280
  t53 := Tryz.underlying283
  a53 := Tryz.isAgg283
  z53 := Tryz.sizeOf283
  v53 := Tryz.zeroValue283
  t55 := Tryz.underlying285
  a55 := Tryz.isAgg285
  z55 := Tryz.sizeOf285
  v55 := Tryz.zeroValue285
  t66 := Tryz.underlying300
  a66 := Tryz.isAgg300
  z66 := Tryz.sizeOf300
  v66 := Tryz.zeroValue300
  t70 := Tryz.underlying304
  a70 := Tryz.isAgg304
  z70 := Tryz.sizeOf304
  v70 := Tryz.zeroValue304
  t76 := Tryz.underlying313
  a76 := Tryz.isAgg313
  z76 := Tryz.sizeOf313
  v76 := Tryz.zeroValue313
  t77 := Tryz.underlying270
  a77 := Tryz.isAgg270
  z77 := Tryz.sizeOf270
  v77 := Tryz.zeroValue270 }
end Go.Proofs.YthpkgabckklojaaGreat

/- Walks of lend: places in order, by what lies there. -/
namespace Go.Proofs.YthpkgabckklojaaGreat.En
open Go.RowKit Go.Shelf Go.Proofs Go.Lib
open Go.Sort hiding Below

/-- The world has grown alone. -/
def Grown (W w' : World) : Prop := ∃ q os, w' = grow (W.drewN q) os
theorem Grown.refl (W : World) : Grown W W := ⟨0, #[], by simp [World.drewN]⟩
theorem Grown.drew (W : World) : Grown W W.drew := ⟨1, #[], (grow_empty _).symm⟩
theorem Grown.alloc {W w : World} (h : Grown W w) (o : Obj) : Grown W (w.alloc o) := by
  obtain ⟨q, os, rfl⟩ := h
  exact ⟨q, os ++ #[o], by rw [alloc_eq_grow, grow_grow]⟩
set_option maxHeartbeats 1000000 in
theorem fit1_any (x y n c fb sb so : Nat) (u v : Int) (hx : x < n) (hy : y < n) (hu : -1000 ≤ u ∧ u ≤ 1000) (hv : -1000 ≤ v ∧ v ≤ 1000) (W : World) (h0 : ∀ q os, (grow (W.drewN q) os).cell? ⟨fb, 0, none⟩ = some (.slice (some ⟨sb, so, none⟩) n c)) (h1 : ∀ q os, (grow (W.drewN q) os).cell? ⟨sb, so + x, none⟩ = some (I u)) (h2 : ∀ q os, (grow (W.drewN q) os).cell? ⟨sb, so + y, none⟩ = some (I v)) :
    Calls Tryz.prog 130 #[I x, I y, .pointer (some ⟨fb, 0, none⟩)] W fun e w' => e = .returned (I (u - v)) ∧ Grown W w' := by
  have mixed : Tryz.prog.follows .mixedOrders = true := by kernel_rfl
  go_enter Tryz.func130, Tryz.ntmps130
  go_wp2
  go_quiet_grown (fail)
  go_wp2
  go_ret
  have e := i64_wrap (n := u - v) ⟨by omega, by omega⟩
  exact ⟨by rw [e]; rfl, _, _, rfl⟩
def orOf (x y : Int) : Int := if x = 0 then y else x
theorem Or_two (x y : Int) (b : Nat) (w : World) (h0 : w.cell? ⟨b, 0, none⟩ = some (I x)) (h1 : w.cell? ⟨b, 1, none⟩ = some (I y)) :
    Calls Tryz.prog 80 #[.slice (some ⟨b, 0, none⟩) 2 2] w fun e w' => e = .returned (I (orOf x y)) ∧ w = w' := by
  go_enter Tryz.func80, Tryz.ntmps80
  go_wp2
  go_loop [8] (fun i => i = I 0 ∨ (i = I 1 ∧ Hid (x = 0)) ∨ (i = I 2 ∧ Hid (x = 0 ∧ y = 0))) (fun i => 2 - (intOf i).toNat)
  case atStart => exact .inl rfl
  case round =>
    rcases hrel with rfl | ⟨rfl, hz⟩ | ⟨rfl, hz⟩
    · by_cases hx : x = 0
      · go_wp2
        go_round
        case rel => exact .inr (.inl ⟨by go_num, hx⟩)
        case measure => simp [intOf]
      · go_wp2
        go_ret
        exact ⟨by simp [orOf, hx], rfl⟩
    · by_cases hx : y = 0
      · go_wp2
        go_round
        case rel => exact .inr (.inr ⟨by go_num, hz.out, hx⟩)
        case measure => simp [intOf]
      · go_wp2
        go_ret
        exact ⟨by simp [orOf, hz.out], rfl⟩
    · go_wp2
      go_ret
      have h := hz.out
      exact ⟨by simp [orOf, h.1, h.2], rfl⟩
set_option maxRecDepth 100000 in
set_option maxHeartbeats 2000000 in
theorem serve1_any (x y n c fb sb so : Nat) (u v : Int) (hx : x < n) (hy : y < n) (hn : n ≤ 1000) (hu : -1000 ≤ u ∧ u ≤ 1000) (hv : -1000 ≤ v ∧ v ≤ 1000) (W : World) (h0 : ∀ q os, (grow (W.drewN q) os).cell? ⟨fb, 0, none⟩ = some (.slice (some ⟨sb, so, none⟩) n c)) (h1 : ∀ q os, (grow (W.drewN q) os).cell? ⟨sb, so + x * 4 + 1 + 1, none⟩ = some (I u)) (h2 : ∀ q os, (grow (W.drewN q) os).cell? ⟨sb, so + y * 4 + 1 + 1, none⟩ = some (I v)) :
    Calls Tryz.prog 79 #[I x, I y, .pointer (some ⟨fb, 0, none⟩)] W fun e w' => e = .returned (I (orOf (u - v) ((x : Int) - y))) ∧ Grown W w' := by
  have mixed : Tryz.prog.follows .mixedOrders = true := by kernel_rfl
  have e := i64_wrap (n := u - v) ⟨by omega, by omega⟩
  have e' := i64_wrap (n := (x : Int) - y) ⟨by omega, by omega⟩
  go_enter Tryz.func79, Tryz.ntmps79
  go_wp2
  have k0 := h0 0 #[]
  have k1 := h1 0 #[]
  have k2 := h2 0 #[]
  have g0 : grow (W.drewN 0) #[] = W := by simp [World.drewN]
  rw [g0] at k0 k1 k2
  go_still_tail 16, (by kernel_rfl)
  change wpList _ _ _ _ _ W.drew
  go_wp2_with (go_at_call 80; refine Calls.mono (Or_two (u - v) ((x : Int) - y) _ _ (by simp [go_sem]) (by simp [go_sem])) ?_; rintro e w' ⟨rfl, rfl⟩)
  go_ret
  exact ⟨rfl, (Grown.drew W).alloc _⟩
theorem sortWorld_heap {α : Type} [Inhabited α] (enc : α → Value) (w : World) (g off n : Nat) (d : Array α) (os : Array Obj) (i : Nat) (hi : i < w.heap.size) (hg : g ≠ i) : (sortWorld enc w g off n d os).heap[i]? = w.heap[i]? := by
  show ((w.heap.modify g _) ++ os)[i]? = w.heap[i]?
  rw [Array.getElem?_append_left (by simp; omega), Array.getElem?_modify, if_neg hg]
theorem sortWorld_size {α : Type} [Inhabited α] (enc : α → Value) (w : World) (g off n : Nat) (d : Array α) (os : Array Obj) : w.heap.size ≤ (sortWorld enc w g off n d os).heap.size := by
  show w.heap.size ≤ ((w.heap.modify g _) ++ os).size
  simp
/-- A slice of the call's own, of which only what it holds is known. -/
def kl {α : Type} (v : Value) (enc : α → List Value) (xs : List α) : Chunk := ⟨fun k => v.ownBlock = some k, fun w => ∃ a cap, v = .slice a xs.length cap ∧ KSl a xs.length cap enc xs w⟩
section
variable {X : Ctx} {P : Program} {st : Sto} {H H' : List Chunk} {R : World → Prop} {k : Kont} {ops : Array Oper} {rest : List Oper} {Q : Exit → Act → World → Prop}
theorem JC_kl {α : Type} {enc : α → List Value} {c : Code} (v : Value) (xs : List α) [hp : Pick H (kl v enc xs) H'] (hF : ∀ b, ¬ X.Fp b) (h : ∀ a cap, v = .slice a xs.length cap → JC X P c k st H' (KAnd (KSl a xs.length cap enc xs) R)) : JC X P c k st H R := fun a w ho => by
  have ho2 := ho.freeze (c := kl v enc xs) hF
  obtain ⟨a2, cap, e, _⟩ := ho2.r.1
  exact h a2 cap e a w (ho2.know fun w' hw => ⟨by obtain ⟨a3, cap3, e3, h3⟩ := hw.1; rw [e] at e3; cases e3; exact h3, hw.2⟩)
end
def encN (i : Nat) : List Value := [I i]
instance : Rec encN 1 := ⟨fun _ => rfl, by decide⟩
theorem flat1 {α : Type} (f : α → Value) : ∀ l : List α, l.flatMap (fun x => [f x]) = l.map f
  | [] => rfl
  | a :: l => by rw [List.flatMap_cons, List.map_cons, flat1 f l]; rfl
set_option maxHeartbeats 1000000 in
theorem sortN_x (F n : Nat) (hn0 : 0 < n) (cs : List Value) (pre : World → Prop) (cf : Nat → Nat → Int) (eF : ∀ args w, (callFunc F args).run Tryz.prog w = .ok (.enter F args) w) (hO : SWO (ltOf fun x y : { i : Nat // i < n } => cf x.1 y.1))
    (hF : ∀ W, pre W → ∀ x y : Nat, x < n → y < n → Calls Tryz.prog F (#[I x, I y] ++ cs.toArray) W fun e w' => e = .returned (I (cf x y)) ∧ Grown W w') (b cap : Nat) (ord : List Nat) (ho : ∀ i ∈ ord, i < n) (hs : ord.length ≤ 1000) :
    Cx Tryz.prog 78 [.slice (some ⟨b, 0, none⟩) ord.length cap, .func (.func F) #[] cs.toArray] [ow (.slice (some ⟨b, 0, none⟩) ord.length cap) 3 1 ord.length (ord.flatMap encN)] pre (fun _ : { ts : List Nat // ts.Perm ord ∧ ts.Pairwise fun x y => ¬ cf y x < 0 } => .tuple #[])
      (fun ts => [kl (.slice (some ⟨b, 0, none⟩) ord.length cap) encN ts.1]) (fun _ => KTrue) := by
  intro M w a1 a2 a3 a4
  haveI : Inhabited { i : Nat // i < n } := ⟨⟨0, hn0⟩⟩
  obtain ⟨ds, rfl⟩ : ∃ ds : List { i : Nat // i < n }, ord = ds.map (·.1) := ⟨ord.attach.map fun x => ⟨x.1, ho x.1 x.2⟩, by simp⟩
  have hc := a2 _ (List.mem_singleton.2 rfl)
  have hfl : ((ds.map (·.1)).flatMap encN) = ds.map fun x => I (x.1 : Int) := by rw [List.flatMap_map]; exact flat1 (fun x : { i : Nat // i < n } => I (x.1 : Int)) ds
  rw [hfl] at hc
  simp only [List.length_map] at hc hs ⊢
  have hrow : Row w 0 3 1 b ds.length cap (ds.map fun x => I (x.1 : Int)) := hc.1.now
  have hcap : ds.length ≤ cap ∧ cap ≤ maxLen := by
    rcases hc.1.now.2 with ⟨h, _⟩ | ⟨g, cap', cur, hv, h2, h3, h4, h5, h6⟩
    · cases h
    · cases hv; exact ⟨h4, h5⟩
  have hH : Holds (fun x : { i : Nat // i < n } => I (x.1 : Int)) w b 0 ds.toArray := by
    intro j hj
    have hj' : j < ds.length := by simpa using hj
    refine ⟨?_, hrow.free _⟩
    rw [getElem!_pos ds.toArray j hj]
    have := hrow.cell j (u := I ((ds[j].1 : Nat) : Int)) (by simp [hj'])
    simpa using this
  have hmv : ∀ m os (dk : Array { i : Nat // i < n }), Moves (· = b) w (sortWorld (fun x : { i : Nat // i < n } => I (x.1 : Int)) w b 0 m dk os) := fun m os dk => ⟨rfl, rfl, rfl, sortWorld_size .., fun i hi hne => sortWorld_heap _ _ _ _ _ _ _ _ hi fun e => hne e.symm⟩
  have hMb : M b := (a2 _ (List.mem_singleton.2 rfl)).2 b rfl
  have hcmp : CmpLays1 Tryz.prog F cs.toArray (fun x : { i : Nat // i < n } => I (x.1 : Int)) (fun x y => cf x.1 y.1) b 0 ds.toArray.size w := fun m os dk hd x y =>
    hF _ (a4 _ ((hmv m os dk).weaken fun i _ e => e ▸ hMb)) x.1 y.1 x.2 y.2
  have hcon := Any.slices_SortFunc Tryz.sortI (fun x : { i : Nat // i < n } => I (x.1 : Int)) (fun _ => rfl) (fun x y => cf x.1 y.1) hO F cs.toArray b 0 cap ds.toArray w eF hcmp hH hrow.lt (by simp; omega)
  change Calls Tryz.prog 78 _ _ _ at hcon
  simp only [List.size_toArray] at hcon
  refine hcon.mono ?_
  rintro e w' ⟨rfl, d', m, os, ⟨hsz, _, hp⟩, hso, rfl⟩
  have hsz : d'.size = ds.length := by simpa using hsz
  have hperm : d'.toList.Perm ds := by
    have e1 : d'.extract 0 ds.length = d' := by rw [← hsz]; simp
    rw [e1] at hp
    simpa using hp
  have hpw : (d'.toList.map (·.1)).Pairwise fun x y => ¬ cf y x < 0 := by
    rw [List.pairwise_map, List.pairwise_iff_getElem]
    intro i j hi hj hij
    have h1 := hso i j (Nat.zero_le _) hij (by simpa [hsz] using hj)
    rw [getElem!_pos d' i (by simpa using hi), getElem!_pos d' j (by simpa using hj)] at h1
    rw [Array.getElem_toList, Array.getElem_toList]
    exact of_decide_eq_false h1
  have hlen : (d'.toList.map (·.1)).length = ds.length := by rw [List.length_map, hperm.length_eq]
  have hH2 := holds_sortWorld (fun x : { i : Nat // i < n } => I (x.1 : Int)) w b 0 m ds.toArray d' os hrow.lt hH (by simpa using hsz)
  have hzz := sortWorld_size (fun x : { i : Nat // i < n } => I (x.1 : Int)) w b 0 m d' os
  refine ⟨⟨d'.toList.map (·.1), hperm.map _, hpw⟩, M, rfl, (hmv m os d').weaken fun i _ e => ⟨_, List.mem_singleton.2 rfl, by show _ = some i; rw [e]; rfl⟩, fun _ h => h, fun _ h => .inl h, fun x hx => Nat.lt_of_lt_of_le (a1 x hx) hzz, fun c hc => ?_, by simp, fun _ _ => trivial⟩
  obtain rfl := List.mem_singleton.1 hc
  have hown : ∀ x, (kl (.slice (some ⟨b, 0, none⟩) ds.length cap) encN (d'.toList.map (·.1))).own x → x = b := fun x hx => by
    have : (Value.slice (some (⟨b, 0, none⟩ : Addr)) ds.length cap).ownBlock = some x := hx
    simpa [Value.ownBlock] using this.symm
  refine ⟨⟨fun x hx => by rw [hown x hx]; exact Nat.lt_of_lt_of_le hrow.lt hzz, fun w2 hz2 he2 => ⟨some ⟨b, 0, none⟩, cap, by rw [hlen], ⟨by rw [hlen]; exact hcap.1, hcap.2, fun h => (by cases h), fun _ => ⟨b, 0, rfl, ?_, fun i c hi => ?_⟩⟩, rfl⟩⟩, fun x hx => ⟨?_, .inl ⟨_, List.mem_singleton.2 rfl, ?_⟩⟩⟩
  · exact Nat.lt_of_lt_of_le (Nat.lt_of_lt_of_le hrow.lt hzz) hz2
  · have e2 : ((d'.toList.map (·.1)).flatMap encN) = d'.toList.map fun x => I (x.1 : Int) := by rw [List.flatMap_map]; exact flat1 (fun x : { i : Nat // i < n } => I (x.1 : Int)) d'.toList
    rw [e2] at hi
    have hil : i < d'.size := by have := (List.getElem?_eq_some_iff.1 hi).1; simpa using this
    have h7 := (hH2 i hil).1
    rw [getElem!_pos d' i hil] at h7
    have hi' : c = I ((d'[i].1 : Nat) : Int) := by simpa [hil] using hi.symm
    have h8 := he2 b rfl
    rw [hi']
    simp only [World.cell?, h8] at h7 ⊢
    exact h7
  · rw [hown x hx]; exact hMb
  · rw [hown x hx]; rfl
end Go.Proofs.YthpkgabckklojaaGreat.En

/- Walks of lend: Serve. -/
namespace Go.Proofs.YthpkgabckklojaaGreat.En
open Go.RowKit Go.Shelf Go.Proofs Go.Lib
open Go.Sort hiding Below

theorem Repeat_i (m : Int) (n : Nat) (hm : m = n) (h : n ≤ 100) (a : Option Addr) (cap : Nat) (v : Int) : Cx Tryz.prog 81 [.slice a 1 cap, I m] [] (KSl a 1 cap encI [v]) (fun b : Nat => .slice (some ⟨b, 0, none⟩) n n) (fun b => [ow (.slice (some ⟨b, 0, none⟩) n n) 3 1 n ((List.replicate n v).flatMap encI)]) (fun _ => KTrue) := by
  subst hm
  rw [show (List.replicate n v).flatMap encI = List.replicate n (I v) by rw [show encI = fun v => [I v] from rfl, flat1 (fun v : Int => I v), List.map_replicate]]
  exact Repeat_j n h a cap v
/-- The first places in order, the others 0. -/
def ordI (n i : Nat) : List Nat := List.range i ++ List.replicate (n - i) 0
theorem ordI_len {n i : Nat} (h : i ≤ n) : (ordI n i).length = n := by simp [ordI]; omega
theorem ordI_set {n i : Nat} (h : i < n) : (ordI n i).set i i = ordI n (i + 1) := by
  unfold ordI
  rw [List.range_succ, List.append_assoc, show n - i = (n - (i + 1)) + 1 by omega, List.replicate_succ]
  rw [List.set_append_right _ _ (by simp)]
  simp
theorem ordI_zero (n : Nat) : (madeCells (Value.cells (I 0)) (n * 1)).toList = (ordI n 0).flatMap encN := by
  rw [Nat.mul_one, show encN = fun i : Nat => [I (i : Int)] from rfl, flat1 (fun i : Nat => I (i : Int))]
  refine List.ext_getElem (by simp [madeCells, ordI]) fun i h1 h2 => ?_
  simp [madeCells, Value.cells, ordI, Nat.mod_one]
theorem ordI_all (n : Nat) : ordI n n = List.range n := by simp [ordI]
/-- By when they may go, then by their places. -/
def cfS (l : List Gr) (x y : Nat) : Int := orOf (l[x]!.hi - l[y]!.hi) ((x : Int) - y)
theorem cfS_lt (l : List Gr) (x y : Nat) : cfS l x y < 0 ↔ l[x]!.hi < l[y]!.hi ∨ l[x]!.hi = l[y]!.hi ∧ x < y := by
  unfold cfS orOf
  split <;> omega
theorem swoS (l : List Gr) (n : Nat) : SWO (ltOf fun x y : { i : Nat // i < n } => cfS l x.1 y.1) where
  irrefl x := decide_eq_false (by rw [cfS_lt]; omega)
  trans x y z h1 h2 := by
    have h1 := (cfS_lt _ _ _).1 (of_decide_eq_true h1)
    have h2 := (cfS_lt _ _ _).1 (of_decide_eq_true h2)
    exact decide_eq_true ((cfS_lt _ _ _).2 (by omega))
  ntrans x y z h1 h2 := by
    have h1 := mt (cfS_lt _ _ _).2 (of_decide_eq_false h1)
    have h2 := mt (cfS_lt _ _ _).2 (of_decide_eq_false h2)
    exact decide_eq_false (mt (cfS_lt _ _ _).1 (by omega))
/-- A cell of a slice that is known, in each world that has grown. -/
theorem cell_of {α : Type} {enc : α → List Value} {a : Option Addr} {n c : Nat} {xs : List α} {w : World} (h : KSl a n c enc xs w) (hne : xs.flatMap enc ≠ []) : ∃ b off, a = some ⟨b, off, none⟩ ∧ ∀ i v, (xs.flatMap enc)[i]? = some v → ∀ q os, (grow (w.drewN q) os).cell? ⟨b, off + i, none⟩ = some v := by
  obtain ⟨⟨_, _, _, h4⟩, _⟩ := h
  obtain ⟨b, off, q1, q2, q3⟩ := h4 hne
  exact ⟨b, off, q1, fun i v hi q os => cell_grown q2 (q3 i v hi) q os⟩
theorem flatG_get (xs : List Gx) (i : Nat) (h : i < xs.length) (k : Nat) (hk : k < 4) : (xs.flatMap encG)[i * 4 + k]? = (encG xs[i])[k]? := flatMap_get encG 4 (fun _ => rfl) xs i k xs[i] (List.getElem?_eq_getElem h) hk
theorem gs_get (xs : List Gx) (i : Nat) (h : i < xs.length) : (gs xs)[i]! = xs[i].g := by
  rw [getElem!_pos (gs xs) i (by simp [gs, h])]; simp [gs]
theorem serve_cmp (xs : List Gx) (hV : ∀ g ∈ gs xs, VGr g) (hl : xs.length ≤ 1000) (fb : Nat) (a : Option Addr) (c : Nat) (W : World) (h0 : Box W fb [.slice a xs.length c]) (h1 : KSl a xs.length c encG xs W) (x y : Nat) (hx : x < xs.length) (hy : y < xs.length) :
    Calls Tryz.prog 79 (#[I x, I y] ++ [pt fb].toArray) W fun e w' => e = .returned (I (cfS (gs xs) x y)) ∧ Grown W w' := by
  have hne : xs.flatMap encG ≠ [] := fun e => by
    have := flat_len encG xs
    rw [e] at this; simp at this; omega
  obtain ⟨sb, so, rfl, hc⟩ := cell_of h1 hne
  have v : ∀ i (h : i < xs.length), 0 ≤ xs[i].g.hi ∧ xs[i].g.hi ≤ 30 := fun i h => by
    have q := hV xs[i].g (List.mem_map.2 ⟨xs[i], List.getElem_mem h, rfl⟩)
    have := q.f0; have := q.fl; have := q.lh; have := q.h1
    omega
  have := v x hx
  have := v y hy
  have hr := serve1_any x y xs.length c fb sb so xs[x].g.hi xs[y].g.hi hx hy hl (by omega) (by omega) W (fun q os => cell_grown h0.lt (h0.cell 0 rfl) q os)
    (fun q os => hc (x * 4 + 2) _ (by rw [flatG_get xs x hx 2 (by decide)]; rfl) q os) (fun q os => hc (y * 4 + 2) _ (by rw [flatG_get xs y hy 2 (by decide)]; rfl) q os)
  unfold cfS
  rw [gs_get xs x hx, gs_get xs y hy]
  exact hr
theorem sort0_x (b cap : Nat) (fv : Value) (hcap : True) (pre : World → Prop) (p : Nat → Nat → Prop) : Cx Tryz.prog 78 [.slice (some ⟨b, 0, none⟩) 0 cap, fv] [ow (.slice (some ⟨b, 0, none⟩) 0 cap) 3 1 0 []] pre (fun _ : { ts : List Nat // ts.Perm [] ∧ ts.Pairwise p } => .tuple #[])
      (fun ts => [kl (.slice (some ⟨b, 0, none⟩) 0 cap) encN ts.1]) (fun _ => KTrue) := by
  intro M w a1 a2 a3 a4
  have hc := a2 _ (List.mem_singleton.2 rfl)
  have hrow : Row w 0 3 1 b 0 cap [] := hc.1.now
  have hcap : 0 ≤ cap ∧ cap ≤ maxLen := by
    rcases hc.1.now.2 with ⟨h, _⟩ | ⟨g, cap', cur, hv, h2, h3, h4, h5, h6⟩
    · cases h
    · cases hv; exact ⟨h4, h5⟩
  have hno := AnyF.slices_SortFunc_none (P := Tryz.prog) (ρ := Tryz.sortI_ren) { Tryz.sortI with } (some ⟨b, 0, none⟩) cap fv w
  change Calls Tryz.prog 78 _ _ _ at hno
  refine hno.mono ?_
  rintro e w' ⟨rfl, rfl⟩
  refine ⟨⟨[], List.Perm.refl _, List.Pairwise.nil⟩, M, rfl, Moves.refl _, fun _ h => h, fun _ h => .inl h, a1, fun c hc' => ?_, by simp, fun _ _ => trivial⟩
  obtain rfl := List.mem_singleton.1 hc'
  have hown : ∀ x, (kl (.slice (some ⟨b, 0, none⟩) 0 cap) encN ([] : List Nat)).own x → x = b := fun x hx => by
    have : (Value.slice (some (⟨b, 0, none⟩ : Addr)) 0 cap).ownBlock = some x := hx
    simpa [Value.ownBlock] using this.symm
  refine ⟨⟨fun x hx => by rw [hown x hx]; exact hrow.lt, fun w2 _ _ => ⟨some ⟨b, 0, none⟩, cap, rfl, ⟨Nat.zero_le _, hcap.2, fun h => (by cases h), fun h => absurd rfl h⟩, rfl⟩⟩, fun x hx => ⟨?_, .inl ⟨_, List.mem_singleton.2 rfl, ?_⟩⟩⟩
  · rw [hown x hx]; exact hc.2 b rfl
  · rw [hown x hx]; rfl
theorem sortN_y (F n : Nat) (cs : List Value) (pre : World → Prop) (cf : Nat → Nat → Int) (eF : ∀ args w, (callFunc F args).run Tryz.prog w = .ok (.enter F args) w) (hO : SWO (ltOf fun x y : { i : Nat // i < n } => cf x.1 y.1))
    (hF : ∀ W, pre W → ∀ x y : Nat, x < n → y < n → Calls Tryz.prog F (#[I x, I y] ++ cs.toArray) W fun e w' => e = .returned (I (cf x y)) ∧ Grown W w') (b cap m : Nat) (ord : List Nat) (ho : ∀ i ∈ ord, i < n) (hm : ord.length = m) (hs : m ≤ 1000) :
    Cx Tryz.prog 78 [.slice (some ⟨b, 0, none⟩) m cap, .func (.func F) #[] cs.toArray] [ow (.slice (some ⟨b, 0, none⟩) m cap) 3 1 m (ord.flatMap encN)] pre (fun _ : { ts : List Nat // ts.Perm ord ∧ ts.Pairwise fun x y => ¬ cf y x < 0 } => .tuple #[])
      (fun ts => [kl (.slice (some ⟨b, 0, none⟩) m cap) encN ts.1]) (fun _ => KTrue) := by
  subst hm
  rcases Nat.eq_zero_or_pos n with h | h
  · obtain rfl : ord = [] := by
      cases ord with
      | nil => rfl
      | cons i r => have := ho i (by simp); omega
    exact sort0_x b cap _ trivial pre _
  · exact sortN_x F n h cs pre cf eF hO hF b cap ord ho hs
end Go.Proofs.YthpkgabckklojaaGreat.En

/- The statements about lend: houses and groups that came in. -/
namespace Go.Proofs.YthpkgabckklojaaGreat.En
open Go.ChangeShapes Go.WideShapes Go.ChangeAt Go.RowKit Go.Deep Go.Joins

theorem opensI : OpensTo Tryz.prog 3 encI := (opens_int Tryz.underlying3).to id fun _ => rfl
theorem opensRg : OpensTo Tryz.prog 90 (fun p : Int × Int => [I p.1, I p.2]) :=
  (opens_struct2 Tryz.underlying90 opensI opensI rfl (by kernel_rfl) (by kernel_rfl)).to (fun p => (p.1, p.2)) fun _ => rfl
theorem opensLs : OpensK Tryz.prog 31 (fun q : Option Addr × Nat × List Int => [.slice q.1 q.2.2.length q.2.1]) (fun q w => KSl q.1 q.2.2.length q.2.1 encI q.2.2 w) := opensK_slice Tryz.underlying31 opensI (by kernel_rfl)
set_option maxRecDepth 100000 in
theorem opensGx : OpensK Tryz.prog 92 encG (fun x w => KSl x.a x.g.feet.length x.c encI x.g.feet w) :=
  (opensK_struct3 Tryz.underlying92 opensI opensRg opensLs rfl (by kernel_rfl) (by kernel_rfl) (by kernel_rfl)).to (fun p => (⟨⟨p.1, p.2.1.1, p.2.1.2, p.2.2.2.2⟩, p.2.2.1, p.2.2.2.1⟩ : Gx)) (fun _ => rfl) fun _ _ h => h
set_option maxRecDepth 100000 in
theorem opensHx : OpensK Tryz.prog 79 (fun x : Hx => [I x.h.lanes, .slice x.a x.h.shoes.length x.c]) (fun x w => KHx x w) :=
  (opensK_struct2 Tryz.underlying79 opensI opensLs rfl (by kernel_rfl) (by kernel_rfl)).to (fun p => (⟨⟨p.1, p.2.2.2⟩, p.2.1, p.2.2.1⟩ : Hx)) (fun _ => rfl) fun _ _ h => h
set_option maxRecDepth 100000 in
theorem open_house {H : Type} {enc : TypeId × Value → H} {w : World} {r : Reach} {b0 base : Nat} {sp : Nat → Bool} {held : Bool} {v : Value} {d : DataW H} {p : List MemPlace} (hv : Value.okWide Tryz.prog w r b0 79 v) (h : DataW.Trod enc Tryz.prog w base sp held 79 v d p) : ∃ x : Hx, v = .agg #[I x.h.lanes, .slice x.a x.h.shoes.length x.c] ∧ KHx x w := open_aggK Tryz.underlying79 opensHx hv h
set_option maxRecDepth 100000 in
theorem open_groups {H : Type} {enc : TypeId × Value → H} {w : World} {r : Reach} {b0 base : Nat} {sp : Nat → Bool} {held : Bool} {v : Value} {d : DataW H} {p : List MemPlace} (hv : Value.okWide Tryz.prog w r b0 80 v) (h : DataW.Trod enc Tryz.prog w base sp held 80 v d p) : ∃ (a : Option Addr) (c : Nat) (xs : List Gx), v = .slice a xs.length c ∧ KGs a c xs w := by
  obtain ⟨a, c, xs, h1, h2, h3⟩ := open_sliceK Tryz.underlying80 opensGx (by kernel_rfl) hv h
  exact ⟨a, c, xs, h1, h2, h3⟩
theorem KGs.below {a : Option Addr} {c : Nat} {xs : List Gx} {w w' : World} (h : KGs a c xs w) (hb : Below w.heap.size w w') : KGs a c xs w' := ⟨h.1.below hb, fun x hx => (h.2 x hx).below hb⟩
end Go.Proofs.YthpkgabckklojaaGreat.En

/- The statements about lend: LendOrder. -/
import Derived.Test.YtkmaafnbefpdjaaB10
import Derived.Test.YtkmaafnbefpdjaaB9
set_option linter.unusedSimpArgs false
set_option linter.unusedVariables false
namespace Go.Proofs.Ytkmaafnbefpdjaa
open Go.RowKit Go.Shelf

theorem lack_perm {sh feet feet' : List Int} (h : feet.Perm feet') (S : List Int) : lack sh feet S = lack sh feet' S := by
  unfold lack lackI
  rw [h.countP_eq]
theorem barN_perm {sh feet feet' : List Int} (h : feet.Perm feet') : barN sh feet = barN sh feet' := by
  unfold barN
  generalize 1024 = n
  induction n with
  | zero => rfl
  | succ n ih => unfold lacksV; rw [ih, lack_perm h]
theorem srvN_perm {k : Nat} {l l' : List Gr} (hV : ∀ g ∈ l, VGr g) (h : l.Perm l') : srvN k l = srvN k l' := by
  obtain ⟨p, hp⟩ := serve_exists k l hV
  obtain ⟨p', hp'⟩ := serve_exists k l' fun g hg => hV g (h.mem_iff.2 hg)
  rw [srvN_of hp, srvN_of hp', serve_same hp hp' h]
theorem fault_perm {h : Hs} {l l' : List Gr} (hp : l.Perm l') (hf : fault h l = 0) : fault h l' = 0 := by
  have V := vld_of hf
  exact of_vld ⟨V.hs, by rw [← hp.length_eq]; exact V.n, fun g hg => V.fw g (hp.mem_iff.2 hg), fun g hg => V.gr g (hp.mem_iff.2 hg)⟩
theorem of_vfeet {h : Hs} {feet : List Int} (V : VFeet h feet) : shodE h feet = 0 := by
  unfold shodE
  rw [if_neg (by rw [hsOk_iff.2 V.hs]; decide), if_neg (by have := V.n; omega), if_neg (by rw [List.all_eq_true.2 fun f hf => inI_iff.2 (V.ft f hf)]; decide)]
theorem shod_perm {h : Hs} {feet feet' : List Int} (hp : feet.Perm feet') (hf : shodE h feet = 0) : shodE h feet' = 0 := by
  have V := vfeet_of hf
  exact of_vfeet ⟨V.hs, by rw [← hp.length_eq]; exact V.n, fun f hg => V.ft f (hp.mem_iff.2 hg)⟩
theorem rot_perm {α : Type} (l : List α) (k : Nat) : (l.drop k ++ l.take k).Perm l := by
  conv => rhs; rw [← List.take_append_drop k l]
  exact List.perm_append_comm
theorem encG_one' (y : Gx) : (encG y).all (·.oneCell') = true := rfl
end Go.Proofs.Ytkmaafnbefpdjaa

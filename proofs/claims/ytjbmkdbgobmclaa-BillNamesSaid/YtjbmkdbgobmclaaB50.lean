/- The statements about bill: BillNames. -/
import Derived.Test.YtjbmkdbgobmclaaB47
import Derived.Test.YtjbmkdbgobmclaaB34
import Derived.Test.YtjbmkdbgobmclaaQC
import Derived.Test.YtjbmkdbgobmclaaB22
set_option linter.unusedSimpArgs false
set_option linter.unusedVariables false
namespace Go.Proofs.Ytjbmkdbgobmclaa
open Go.RowKit Go.Shelf

theorem prices_o : Cx Try.prog 53 [] [] KTrue (fun b : Nat => .slice (some ⟨b, 0, none⟩) 4 4) (fun b => [ow (.slice (some ⟨b, 0, none⟩) 4 4) 96 7 4 (prL.flatMap encO)]) (fun _ => KTrue) := by
  refine Cx_of Try.func53 rfl Try.ntmps53 rfl fun w0 M0 => ?_
  refine JC_seq ?_
  refine JC_region ?_
  refine JL_pd rfl (det_assign rfl) ?_
  refine JL_nil ?_
  refine JE_seq ?_
  refine JC_seq ?_
  refine JC_region ?_
  refine JL_pd rfl (det_build rfl (bld_36_0_1 _ _)) ?_
  refine JL_step rfl rfl rfl (jo_alloc0 Try.zeroValue36 rfl) fun b1 => ?_
  refine JL_step0 rfl rfl (jo_store rfl rfl rfl (by first | (simp only [splice_norm]; done) | (simp only [splice_norm]; rfl) | rfl) Try.sizeOf36 rfl rfl) fun _ => ?_
  refine JL_nil ?_
  refine JE_seq ?_
  refine JC_seq ?_
  refine JC_region ?_
  refine JL_pd rfl (det_build rfl (bld_60_0 _)) ?_
  refine JL_dt rfl (det_loadKA rfl Try.isAgg36 Try.sizeOf36 rfl rfl) ?_
  refine JL_pd rfl (det_build rfl (bld_96_0_1_2_3 _ _ _ _ _ _ _)) ?_
  refine JL_pd rfl (det_build rfl (bld_60_0_2 _ _)) ?_
  refine JL_dt rfl (det_loadKA rfl Try.isAgg36 Try.sizeOf36 rfl rfl) ?_
  refine JL_pd rfl (det_build rfl (bld_96_0_1_2_3 _ _ _ _ _ _ _)) ?_
  refine JL_pd rfl (det_build rfl (bld_60_2 _)) ?_
  refine JL_dt rfl (det_loadKA rfl Try.isAgg36 Try.sizeOf36 rfl rfl) ?_
  refine JL_pd rfl (det_build rfl (bld_96_0_1_2_3 _ _ _ _ _ _ _)) ?_
  refine JL_pd rfl (det_build rfl (bld_60_1_2 _ _)) ?_
  refine JL_pd rfl (det_build rfl (bld_36_0_1 _ _)) ?_
  refine JL_pd rfl (det_build rfl (bld_96_0_1_2_3 _ _ _ _ _ _ _)) ?_
  refine JL_step rfl rfl rfl (jo_buildOwn (z := 7) rfl (bsl_58_4_0_1_2_3 _ _ _ _ _ _ _ _ _ _ _ _ _ _ _ _ _ _ _ _ _ _ _ _ _ _ _ _) rfl (by decide)) fun b15 => ?_
  refine JL_pd rfl (det_assign rfl) ?_
  refine JL_nil ?_
  refine JE_seq ?_
  refine JC_ret ?_
  -- stop: out
  refine JE_out (.inl rfl) b15 (results1 Try.results53 (res_tmp rfl)) rfl (List.Perm.refl _) (fun _ _ => trivial)
theorem told_o : Cx Try.prog 54 [] [] KTrue (fun b : Nat => .slice (some ⟨b, 0, none⟩) 2 2) (fun b => [ow (.slice (some ⟨b, 0, none⟩) 2 2) 94 3 2 (tdL.flatMap encM)]) (fun _ => KTrue) := by
  refine Cx_of Try.func54 rfl Try.ntmps54 rfl fun w0 M0 => ?_
  refine JC_seq ?_
  refine JC_region ?_
  refine JL_pd rfl (det_assign rfl) ?_
  refine JL_nil ?_
  refine JE_seq ?_
  refine JC_seq ?_
  refine JC_region ?_
  refine JL_pd rfl (det_build rfl (bld_94_0_1_2 _ _ _)) ?_
  refine JL_pd rfl (det_build rfl (bld_94_0_1_2 _ _ _)) ?_
  refine JL_step rfl rfl rfl (jo_buildOwn (z := 3) rfl (bsl_33_2_0_1 _ _ _ _ _ _) rfl (by decide)) fun b3 => ?_
  refine JL_pd rfl (det_assign rfl) ?_
  refine JL_nil ?_
  refine JE_seq ?_
  refine JC_ret ?_
  -- stop: out
  refine JE_out (.inl rfl) b3 (results1 Try.results54 (res_tmp rfl)) rfl (List.Perm.refl _) (fun _ _ => trivial)
theorem nBo (b : Nat) (need : Am) (at_ : Int) {L : List Int} {co m : Int} (h : bR prL need at_ = some ⟨L, co, m⟩) (h2 : bErr prL need at_ = 0) : Cr Try.prog 32 [.slice (some ⟨b, 0, none⟩) 4 4, .agg #[I need.g, I need.q, I need.s], I at_] (KSl (some ⟨b, 0, none⟩) 4 4 encO prL) (fun q : Option Addr × Nat => .tuple #[.slice q.1 L.length q.2, I co, I 0]) (fun q => KSl q.1 L.length q.2 encI L) := by
  have h0 := Best_u (some ⟨b, 0, none⟩) 4 prL need at_
  rw [h, h2] at h0
  exact h0
theorem nBe (b : Nat) (need : Am) (at_ : Int) {e : Int} (h : bR prL need at_ = none) (h2 : bErr prL need at_ = e) : Cr Try.prog 32 [.slice (some ⟨b, 0, none⟩) 4 4, .agg #[I need.g, I need.q, I need.s], I at_] (KSl (some ⟨b, 0, none⟩) 4 4 encO prL) (fun q : Option Addr × Nat => .tuple #[.slice q.1 0 q.2, I 0, I e]) (fun _ => KTrue) := by
  have h0 := Best_u (some ⟨b, 0, none⟩) 4 prL need at_
  rw [h, h2] at h0
  exact h0.mono (fun _ h => h) (fun _ _ _ => trivial)
theorem nB1 : bR prL ⟨3, 0, 0⟩ 9 = some ⟨[0, 1, 0, 0], 1300, 1⟩ ∧ bErr prL ⟨3, 0, 0⟩ 9 = 0 := by decide +kernel
theorem nB2 : bR prL ⟨0, 4, 4⟩ 10 = some ⟨[0, 0, 0, 1], 1500, 1⟩ ∧ bErr prL ⟨0, 4, 4⟩ 10 = 0 := by decide +kernel
theorem nB3 : bR prL ⟨0, 4, 0⟩ 9 = none ∧ bErr prL ⟨0, 4, 0⟩ 9 = 9 := by decide +kernel
theorem nB4 : bR prL ⟨13, 0, 0⟩ 9 = none ∧ bErr prL ⟨13, 0, 0⟩ 9 = 2 := by decide +kernel
theorem nB5 : bR prL ⟨0, 0, 0⟩ 24 = none ∧ bErr prL ⟨0, 0, 0⟩ 24 = 2 := by decide +kernel
theorem nTo (b : Nat) (fr to_ : Int) {lo hi : Int} (h : takenE tdL fr to_ = 0) (h1 : takenV littleG tdS fr to_ = lo) (h2 : takenV muchG tdS fr to_ = hi) : Cv Try.prog 23 [.slice (some ⟨b, 0, none⟩) 2 2, I fr, I to_] (KSl (some ⟨b, 0, none⟩) 2 2 encM tdL) (.tuple #[.agg #[I lo, I hi], I 0]) := by
  have h0 := Taken_jo (some ⟨b, 0, none⟩) 2 tdL (by decide) fr to_ h
  rw [td_srt, h1, h2] at h0
  exact h0
theorem nTe (b : Nat) (fr to_ : Int) {e : Int} (h : takenE tdL fr to_ = e) (h1 : e ≠ 0) : Cv Try.prog 23 [.slice (some ⟨b, 0, none⟩) 2 2, I fr, I to_] (KSl (some ⟨b, 0, none⟩) 2 2 encM tdL) (.tuple #[.agg #[I 0, I 0], I e]) := by
  have h0 := Taken_je (some ⟨b, 0, none⟩) 2 tdL (by decide) fr to_ (by rw [h]; exact h1)
  rw [h] at h0
  exact h0
theorem nT1 : takenE tdL 1 1 = 0 ∧ takenE tdL 3 3 = 0 ∧ takenE tdL 3 4 = 0 ∧ takenE tdL 1 6 = 2 := by
  unfold takenE
  rw [td_read, td_srt]
  decide +kernel
theorem nT2 : takenV littleG tdS 1 1 = 50 ∧ takenV muchG tdS 1 1 = 50 ∧ takenV littleG tdS 3 3 = 1 ∧ takenV muchG tdS 3 3 = 109 ∧ takenV littleG tdS 3 4 = 110 ∧ takenV muchG tdS 3 4 = 110 := by decide +kernel
def td3 : List Ms := tdL ++ [⟨4, 20, 170⟩]
theorem td3_srt : srtL td3 = [⟨2, 30, 80⟩, ⟨4, 20, 170⟩, ⟨5, 10, 200⟩] := srt_val (by decide +kernel) (by decide +kernel)
theorem nT3 : takenE td3 1 1 = 9 := by
  unfold takenE readE
  rw [td3_srt]
  decide +kernel
theorem nil_srt : srtL [] = [] := srt_val (by decide) (by decide)
theorem nT4 : takenE [] 1 1 = 2 ∧ readE [] = 0 ∧ showsL (srtL []) = [] := by
  unfold takenE readE
  rw [nil_srt]
  decide +kernel
theorem nL1 : readE [⟨61, 1, 0⟩] = 1 ∧ readE (List.replicate 31 zM) = 3 := by
  unfold readE
  rw [if_neg (by decide), if_pos (by decide), if_pos (by decide)]
  decide
theorem nP1 : provB prL ⟨4, 0, 3⟩ 9 [1, 1, 1, 0] 2000 = true ∧ provB prL ⟨4, 0, 3⟩ 9 [1, 1, 1, 0] 1999 = false := by decide +kernel
theorem nP2 : (decide (mfE tdL = 0) && fitsB tdL [50, 30, 1, 109, 10]) = true ∧ (decide (mfE tdL = 0) && fitsB tdL [50, 30, 1, 108, 10]) = false := by decide +kernel
theorem nS1 : shareE 100 [2, 0, 1] = 0 ∧ sharesV 100 [2, 0, 1] = [66, 0, 34] ∧ shareE 100 [0, 0] = 7 ∧ shareE (-1) [0, 0] = 2 ∧ shareE 1 (List.replicate 11 0) = 3 := by decide +kernel
def prW : List Of := [⟨500, ⟨1, 0, 0⟩, 0, 23, 12⟩, ⟨1300, ⟨3, 0, 2⟩, 0, 23, 2⟩, ⟨200, ⟨0, 0, 1⟩, 0, 23, 12⟩, ⟨1500, ⟨0, 4, 4⟩, 10, 24, 1⟩]
abbrev zO : Of := ⟨0, ⟨0, 0, 0⟩, 0, 0, 0⟩
theorem nC1 : tarE prW = 1 ∧ tarE (List.replicate 7 zO) = 3 := by decide +kernel
theorem z11 : (madeCells (Value.cells (I 0)) (11 * 1)).toList = (List.replicate 11 (0 : Int)).flatMap encI := by kernel_rfl
theorem z31 : (madeCells (Value.agg #[I 0, I 0, I 0]).cells (31 * 3)).toList = (List.replicate 31 zM).flatMap encM := by kernel_rfl
theorem z7 : (madeCells (Value.agg #[I 0, I 0, I 0, I 0, I 0, I 0, I 0]).cells (7 * 7)).toList = (List.replicate 7 zO).flatMap encO := by kernel_rfl
theorem nSe (sum : Int) (a : Option Addr) (c : Nat) (ws : List Int) {e : Int} (h : shareE sum ws = e) (h1 : e ≠ 0) : Cv Try.prog 17 [I sum, .slice a ws.length c] (KSl a ws.length c encI ws) (.tuple #[.slice none 0 0, I e]) := by
  have h0 := Share_je sum a c ws (by rw [h]; exact h1)
  rw [h] at h0
  exact h0
theorem nSo (b : Nat) : Cr Try.prog 17 [I 100, .slice (some ⟨b, 0, none⟩) 3 3] (KSl (some ⟨b, 0, none⟩) 3 3 encI [2, 0, 1]) (fun q : Option Addr × Nat => .tuple #[.slice q.1 3 q.2, I 0]) (fun q => KSl q.1 3 q.2 encI [66, 0, 34]) := by
  have h0 := Share_jv 100 (some ⟨b, 0, none⟩) 3 [2, 0, 1] nS1.1
  rw [nS1.2.1] at h0
  exact h0
theorem nLe (a : Option Addr) (c : Nat) (l : List Ms) {e : Int} (h : readE l = e) (h1 : e ≠ 0) (hl : l.length ≤ 1000) : Cv Try.prog 21 [.slice a l.length c] (KSl a l.length c encM l) (.tuple #[.slice none 0 0, I e]) := by
  have h0 := Lost_je a c l hl (by rw [h]; exact h1)
  rw [h] at h0
  exact h0
theorem nP1o (b1 b2 : Nat) (cost : Int) {v : Bool} (h : provB prL ⟨4, 0, 3⟩ 9 [1, 1, 1, 0] cost = v) : Cv Try.prog 41 [.slice (some ⟨b1, 0, none⟩) 4 4, .agg #[I 4, I 0, I 3], I 9, .slice (some ⟨b2, 0, none⟩) 4 4, I cost] (KAnd (KSl (some ⟨b1, 0, none⟩) 4 4 encO prL) (KSl (some ⟨b2, 0, none⟩) 4 4 encI [1, 1, 1, 0])) (.bool v) := by
  have h0 := ProvePurchase_j (some ⟨b1, 0, none⟩) 4 prL ⟨4, 0, 3⟩ 9 (some ⟨b2, 0, none⟩) 4 [1, 1, 1, 0] cost (by decide)
  rw [h] at h0
  exact h0
theorem nP2o (b1 b2 : Nat) (s : List Int) {v : Bool} (hs : s.length ≤ 1000) (h : (decide (mfE tdL = 0) && fitsB tdL s) = v) : Cv Try.prog 50 [.slice (some ⟨b1, 0, none⟩) 2 2, .slice (some ⟨b2, 0, none⟩) s.length s.length] (KAnd (KSl (some ⟨b1, 0, none⟩) 2 2 encM tdL) (KSl (some ⟨b2, 0, none⟩) s.length s.length encI s)) (.bool v) := by
  have h0 := ProveSales_j (some ⟨b1, 0, none⟩) 2 tdL (some ⟨b2, 0, none⟩) s.length s (by decide) hs
  rw [h] at h0
  exact h0
theorem nTn : Cv Try.prog 23 [.slice none 0 0, I 1, I 1] KTrue (.tuple #[.agg #[I 0, I 0], I 2]) := by
  have h0 := Taken_je none 0 [] (by decide) 1 1 (by rw [nT4.1]; decide)
  rw [nT4.1] at h0
  exact h0.mono (fun w _ => KSl_none w) (fun _ _ h => h)
theorem nSh0 : Cr Try.prog 48 [.slice none 0 0] KTrue (fun q : Option Addr × Nat => .tuple #[.slice q.1 0 q.2, I 0]) (fun _ => KTrue) := by
  have h0 := Shows_jo none 0 [] (by decide) nT4.2.1
  rw [nT4.2.2] at h0
  exact h0.mono (fun w _ => KSl_none w) (fun _ _ _ => trivial)
theorem nT3o (a : Option Addr) (c : Nat) : Cv Try.prog 23 [.slice a 3 c, I 1, I 1] (KSl a 3 c encM td3) (.tuple #[.agg #[I 0, I 0], I 9]) := by
  have h0 := Taken_je a c td3 (by decide) 1 1 (by rw [nT3]; decide)
  rw [nT3] at h0
  exact h0
theorem nCo (a : Option Addr) (c : Nat) (l : List Of) {e : Int} (h : tarE l = e) : Cv Try.prog 40 [.slice a l.length c] (KSl a l.length c encO l) (I e) := by
  have h0 := CheckTariff_j a c l
  rw [h] at h0
  exact h0
theorem nSe3 (b : Nat) : Cv Try.prog 17 [I 1, .slice (some ⟨b, 0, none⟩) 11 11] (KSl (some ⟨b, 0, none⟩) 11 11 encI (List.replicate 11 0)) (.tuple #[.slice none 0 0, I 3]) :=
  nSe 1 (some ⟨b, 0, none⟩) 11 (List.replicate 11 0) nS1.2.2.2.2 (by decide)
theorem nLe3 (b : Nat) : Cv Try.prog 21 [.slice (some ⟨b, 0, none⟩) 31 31] (KSl (some ⟨b, 0, none⟩) 31 31 encM (List.replicate 31 zM)) (.tuple #[.slice none 0 0, I 3]) :=
  nLe (some ⟨b, 0, none⟩) 31 (List.replicate 31 zM) nL1.2 (by decide) (by decide)
theorem nC7 (b : Nat) : Cv Try.prog 40 [.slice (some ⟨b, 0, none⟩) 7 7] (KSl (some ⟨b, 0, none⟩) 7 7 encO (List.replicate 7 zO)) (I 3) := nCo (some ⟨b, 0, none⟩) 7 (List.replicate 7 zO) nC1.2
set_option maxRecDepth 100000 in
set_option maxHeartbeats 8000000 in
set_option synthInstance.maxHeartbeats 1000000 in
theorem BillNames_j : Cv Try.prog 15 [] KTrue (.bool true) := by
  refine Cx_of Try.func15 rfl Try.ntmps15 rfl fun w0 M0 => ?_
  refine JC_seq ?_
  refine JC_region ?_
  refine JL_pd rfl (det_assign rfl) ?_
  refine JL_nil ?_
  refine JE_seq ?_
  refine JC_seq ?_
  refine JC_region ?_
  refine JL_step rfl rfl rfl (jo_call rfl rfl Try.call53 rfl (prices_j)) fun x30 => ?_
  refine JL_pd rfl (det_build rfl (bld_60_0 _)) ?_
  -- stop: op  2 t32 := (call (Call (value f32) (t30 t31 9) (58 60 3)))   <0 1 0>   11
  refine JL_step rfl rfl rfl (jo_call rfl rfl Try.call32 rfl (nBo x30 ⟨3, 0, 0⟩ 9 nB1.1 nB1.2)) fun x32 => ?_
  refine JL_pd rfl (det_move rfl) ?_
  refine JL_pd rfl (det_extract rfl rfl) ?_
  refine JL_pd rfl (det_extract rfl rfl) ?_
  refine JL_pd rfl (det_extract rfl rfl) ?_
  refine JL_pd rfl (det_assign rfl) ?_
  refine JL_pd rfl (det_assign rfl) ?_
  refine JL_pd rfl (det_assign rfl) ?_
  refine JL_nil ?_
  refine JE_seq ?_
  refine JC_seq ?_
  refine JC_region ?_
  refine JL_step rfl rfl rfl (jo_call rfl rfl Try.call53 rfl (prices_j)) fun x37 => ?_
  refine JL_pd rfl (det_build rfl (bld_60_1_2 _ _)) ?_
  -- stop: op  2 t39 := (call (Call (value f32) (t37 t38 10) (58 60 3)))   <0 1 0>   12
  refine JL_step rfl rfl rfl (jo_call rfl rfl Try.call32 rfl (nBo x37 ⟨0, 4, 4⟩ 10 nB2.1 nB2.2)) fun x39 => ?_
  refine JL_pd rfl (det_move rfl) ?_
  refine JL_pd rfl (det_extract rfl rfl) ?_
  refine JL_pd rfl (det_extract rfl rfl) ?_
  refine JL_pd rfl (det_extract rfl rfl) ?_
  refine JL_pd rfl (det_assign rfl) ?_
  refine JL_pd rfl (det_assign rfl) ?_
  refine JL_pd rfl (det_assign rfl) ?_
  refine JL_nil ?_
  refine JE_seq ?_
  refine JC_seq ?_
  refine JC_region ?_
  refine JL_step rfl rfl rfl (jo_buildSlice rfl (bsl_22_3_0_1_2 _ _ _)) fun b44 => ?_
  -- stop: op  1 t45 := (call (Call (value f17) (100 t44) (3 22)))   <0>   13
  refine JL_lit (enc := encI) b44 3 [2, 0, 1] noFp rfl rfl (by decide) ?_
  refine JL_step rfl rfl rfl (jo_call rfl rfl Try.call17 rfl (nSo b44)) fun x45 => ?_
  refine JL_pd rfl (det_move rfl) ?_
  refine JL_pd rfl (det_extract rfl rfl) ?_
  refine JL_pd rfl (det_extract rfl rfl) ?_
  refine JL_pd rfl (det_assign rfl) ?_
  refine JL_pd rfl (det_assign rfl) ?_
  refine JL_nil ?_
  refine JE_seq ?_
  refine JC_seq ?_
  refine JC_region ?_
  refine JL_step rfl rfl rfl (jo_call rfl rfl Try.call54 rfl (told_j)) fun x49 => ?_
  -- stop: op  1 t50 := (call (Call (value f23) (t49 1 1) (33 3 3)))   <0 0>   14
  refine JL_step rfl rfl rfl (jo_callv rfl rfl Try.call23 rfl (nTo x49 1 1 nT1.1 nT2.1 nT2.2.1)) fun _ => ?_
  refine JL_pd rfl (det_move rfl) ?_
  refine JL_pd rfl (det_extract rfl rfl) ?_
  refine JL_pd rfl (det_extract rfl rfl) ?_
  refine JL_step rfl rfl rfl (jo_alloc0 Try.zeroValue36 rfl) fun b9 => ?_
  refine JL_step0 rfl rfl (jo_store rfl rfl rfl (by first | (simp only [splice_norm]; done) | (simp only [splice_norm]; rfl) | rfl) Try.sizeOf36 rfl rfl) fun _ => ?_
  refine JL_pd rfl (det_assign rfl) ?_
  refine JL_nil ?_
  refine JE_seq ?_
  refine JC_seq ?_
  refine JC_region ?_
  refine JL_step rfl rfl rfl (jo_call rfl rfl Try.call54 rfl (told_j)) fun x54 => ?_
  -- stop: op  1 t55 := (call (Call (value f23) (t54 3 3) (33 3 3)))   <0 0>   15
  refine JL_step rfl rfl rfl (jo_callv rfl rfl Try.call23 rfl (nTo x54 3 3 nT1.2.1 nT2.2.2.1 nT2.2.2.2.1)) fun _ => ?_
  refine JL_pd rfl (det_move rfl) ?_
  refine JL_pd rfl (det_extract rfl rfl) ?_
  refine JL_pd rfl (det_extract rfl rfl) ?_
  refine JL_step rfl rfl rfl (jo_alloc0 Try.zeroValue36 rfl) fun b11 => ?_
  refine JL_step0 rfl rfl (jo_store rfl rfl rfl (by first | (simp only [splice_norm]; done) | (simp only [splice_norm]; rfl) | rfl) Try.sizeOf36 rfl rfl) fun _ => ?_
  refine JL_pd rfl (det_assign rfl) ?_
  refine JL_nil ?_
  refine JE_seq ?_
  refine JC_seq ?_
  refine JC_region ?_
  refine JL_step rfl rfl rfl (jo_call rfl rfl Try.call54 rfl (told_j)) fun x59 => ?_
  -- stop: op  1 t60 := (call (Call (value f23) (t59 3 4) (33 3 3)))   <0 0>   16
  refine JL_step rfl rfl rfl (jo_callv rfl rfl Try.call23 rfl (nTo x59 3 4 nT1.2.2.1 nT2.2.2.2.2.1 nT2.2.2.2.2.2)) fun _ => ?_
  refine JL_pd rfl (det_move rfl) ?_
  refine JL_pd rfl (det_extract rfl rfl) ?_
  refine JL_pd rfl (det_extract rfl rfl) ?_
  refine JL_step rfl rfl rfl (jo_alloc0 Try.zeroValue36 rfl) fun b13 => ?_
  refine JL_step0 rfl rfl (jo_store rfl rfl rfl (by first | (simp only [splice_norm]; done) | (simp only [splice_norm]; rfl) | rfl) Try.sizeOf36 rfl rfl) fun _ => ?_
  refine JL_pd rfl (det_assign rfl) ?_
  refine JL_nil ?_
  refine JE_seq ?_
  refine JC_seq ?_
  refine JC_seq ?_
  refine JC_region ?_
  refine JL_pd rfl (det_move rfl) ?_
  refine JL_pd rfl (det_neq rfl rfl) ?_
  refine JL_pd rfl (det_move rfl) ?_
  -- stop: guard 2
  skip
  refine JL_is (d0 := 65) false rfl (by rfl) (fun g1 => ?_)
  refine JL_guard rfl rfl g1 ?_
  refine JL_pd rfl (det_move rfl) ?_
  refine JL_guard rfl rfl g1 ?_
  refine JL_pd rfl (det_neq rfl rfl) ?_
  refine JL_pd rfl (det_pick_f rfl g1 rfl) ?_
  refine JL_pd rfl (det_move rfl) ?_
  refine JL_is (d0 := 69) false rfl (by rfl) (fun g2 => ?_)
  refine JL_guard rfl rfl g2 ?_
  refine JL_pd rfl (det_move rfl) ?_
  refine JL_guard rfl rfl g2 ?_
  refine JL_step rfl rfl rfl (jo_buildSlice rfl (bsl_22_4_0_1_2_3 _ _ _ _)) fun b71 => ?_
  refine JL_guard rfl rfl g2 ?_
  -- stop: op  9 t72 := (call (Call (value f25) (t70 t71) (22 22)))   <7 8 6 6>   17
  refine JL_lit (enc := encI) b71 4 [0, 1, 0, 0] noFp rfl rfl (by decide) ?_
  refine JL_step rfl rfl rfl (jo_callv rfl rfl Try.call25 rfl (ints_j x32.1 x32.2 [0, 1, 0, 0] (some ⟨b71, 0, none⟩) 4 [0, 1, 0, 0])) fun _ => ?_
  refine JL_guard rfl rfl g2 ?_
  refine JL_pd rfl (det_not rfl) ?_
  refine JL_pd rfl (det_pick_f rfl g2 rfl) ?_
  refine JL_pd rfl (det_move rfl) ?_
  -- stop: guard 12
  skip
  refine JL_is (d0 := 75) false rfl (by rfl) (fun g1 => ?_)
  refine JL_guard rfl rfl g1 ?_
  refine JL_pd rfl (det_move rfl) ?_
  refine JL_guard rfl rfl g1 ?_
  refine JL_pd rfl (det_neq rfl rfl) ?_
  refine JL_pd rfl (det_pick_f rfl g1 rfl) ?_
  refine JL_pd rfl (det_move rfl) ?_
  refine JL_is (d0 := 79) false rfl (by rfl) (fun g2 => ?_)
  refine JL_guard rfl rfl g2 ?_
  refine JL_pd rfl (det_move rfl) ?_
  refine JL_guard rfl rfl g2 ?_
  refine JL_pd rfl (det_neq rfl rfl) ?_
  refine JL_pd rfl (det_pick_f rfl g2 rfl) ?_
  refine JL_pd rfl (det_move rfl) ?_
  refine JL_is (d0 := 83) false rfl (by rfl) (fun g3 => ?_)
  refine JL_guard rfl rfl g3 ?_
  refine JL_pd rfl (det_move rfl) ?_
  refine JL_guard rfl rfl g3 ?_
  refine JL_step rfl rfl rfl (jo_buildSlice rfl (bsl_22_4_0_1_2_3 _ _ _ _)) fun b85 => ?_
  refine JL_guard rfl rfl g3 ?_
  -- stop: op 23 t86 := (call (Call (value f25) (t84 t85) (22 22)))   <21 22 20 20>   17
  refine JL_lit (enc := encI) b85 4 [0, 0, 0, 1] noFp rfl rfl (by decide) ?_
  refine JL_step rfl rfl rfl (jo_callv rfl rfl Try.call25 rfl (ints_j x39.1 x39.2 [0, 0, 0, 1] (some ⟨b85, 0, none⟩) 4 [0, 0, 0, 1])) fun _ => ?_
  refine JL_guard rfl rfl g3 ?_
  refine JL_pd rfl (det_not rfl) ?_
  refine JL_pd rfl (det_pick_f rfl g3 rfl) ?_
  refine JL_pd rfl (det_move rfl) ?_
  -- stop: guard 26
  skip
  refine JL_is (d0 := 89) false rfl (by rfl) (fun g1 => ?_)
  refine JL_guard rfl rfl g1 ?_
  refine JL_pd rfl (det_move rfl) ?_
  refine JL_guard rfl rfl g1 ?_
  refine JL_pd rfl (det_neq rfl rfl) ?_
  refine JL_pd rfl (det_pick_f rfl g1 rfl) ?_
  refine JL_pd rfl (det_move rfl) ?_
  refine JL_is (d0 := 93) false rfl (by rfl) (fun g2 => ?_)
  refine JL_guard rfl rfl g2 ?_
  refine JL_pd rfl (det_move rfl) ?_
  refine JL_guard rfl rfl g2 ?_
  refine JL_step rfl rfl rfl (jo_buildSlice rfl (bsl_22_3_0_1_2 _ _ _)) fun b95 => ?_
  refine JL_guard rfl rfl g2 ?_
  -- stop: op 33 t96 := (call (Call (value f25) (t94 t95) (22 22)))   <31 32 30 30>   17
  refine JL_lit (enc := encI) b95 3 [66, 0, 34] noFp rfl rfl (by decide) ?_
  refine JL_step rfl rfl rfl (jo_callv rfl rfl Try.call25 rfl (ints_j x45.1 x45.2 [66, 0, 34] (some ⟨b95, 0, none⟩) 3 [66, 0, 34])) fun _ => ?_
  refine JL_guard rfl rfl g2 ?_
  refine JL_pd rfl (det_not rfl) ?_
  refine JL_pd rfl (det_pick_f rfl g2 rfl) ?_
  refine JL_pd rfl (det_move rfl) ?_
  -- stop: guard 36
  skip
  refine JL_is (d0 := 99) false rfl (by rfl) (fun g1 => ?_)
  refine JL_guard rfl rfl g1 ?_
  refine JL_pd rfl (det_move rfl) ?_
  refine JL_guard rfl rfl g1 ?_
  refine JL_pd rfl (det_neq rfl rfl) ?_
  refine JL_pd rfl (det_pick_f rfl g1 rfl) ?_
  refine JL_pd rfl (det_move rfl) ?_
  refine JL_is (d0 := 103) false rfl (by rfl) (fun g2 => ?_)
  refine JL_guard rfl rfl g2 ?_
  refine JL_dt rfl (det_loadKA rfl Try.isAgg36 Try.sizeOf36 rfl rfl) ?_
  refine JL_guard rfl rfl g2 ?_
  refine JL_pd rfl (det_build rfl (bld_36_0_1 _ _)) ?_
  refine JL_guard rfl rfl g2 ?_
  refine JL_pd rfl (det_neqA rfl rfl egt_36 (eqa_36 _ _ _ _)) ?_
  refine JL_pd rfl (det_pick_f rfl g2 rfl) ?_
  refine JL_pd rfl (det_move rfl) ?_
  refine JL_is (d0 := 108) false rfl (by rfl) (fun g3 => ?_)
  refine JL_guard rfl rfl g3 ?_
  refine JL_pd rfl (det_move rfl) ?_
  refine JL_guard rfl rfl g3 ?_
  refine JL_pd rfl (det_neq rfl rfl) ?_
  refine JL_pd rfl (det_pick_f rfl g3 rfl) ?_
  refine JL_pd rfl (det_move rfl) ?_
  refine JL_is (d0 := 112) false rfl (by rfl) (fun g4 => ?_)
  refine JL_guard rfl rfl g4 ?_
  refine JL_dt rfl (det_loadKA rfl Try.isAgg36 Try.sizeOf36 rfl rfl) ?_
  refine JL_guard rfl rfl g4 ?_
  refine JL_pd rfl (det_build rfl (bld_36_0_1 _ _)) ?_
  refine JL_guard rfl rfl g4 ?_
  refine JL_pd rfl (det_neqA rfl rfl egt_36 (eqa_36 _ _ _ _)) ?_
  refine JL_pd rfl (det_pick_f rfl g4 rfl) ?_
  refine JL_pd rfl (det_move rfl) ?_
  refine JL_is (d0 := 117) false rfl (by rfl) (fun g5 => ?_)
  refine JL_guard rfl rfl g5 ?_
  refine JL_pd rfl (det_move rfl) ?_
  refine JL_guard rfl rfl g5 ?_
  refine JL_pd rfl (det_neq rfl rfl) ?_
  refine JL_pd rfl (det_pick_f rfl g5 rfl) ?_
  refine JL_pd rfl (det_move rfl) ?_
  refine JL_is (d0 := 121) false rfl (by rfl) (fun g6 => ?_)
  refine JL_guard rfl rfl g6 ?_
  refine JL_dt rfl (det_loadKA rfl Try.isAgg36 Try.sizeOf36 rfl rfl) ?_
  refine JL_guard rfl rfl g6 ?_
  refine JL_pd rfl (det_build rfl (bld_36_0_1 _ _)) ?_
  refine JL_guard rfl rfl g6 ?_
  refine JL_pd rfl (det_neqA rfl rfl egt_36 (eqa_36 _ _ _ _)) ?_
  refine JL_pd rfl (det_pick_f rfl g6 rfl) ?_
  refine JL_pd rfl (det_move rfl) ?_
  refine JL_is (d0 := 126) false rfl (by rfl) (fun g7 => ?_)
  refine JL_guard rfl rfl g7 ?_
  refine JL_step rfl rfl rfl (jo_call rfl rfl Try.call53 rfl (prices_j)) fun x127 => ?_
  refine JL_guard rfl rfl g7 ?_
  refine JL_pd rfl (det_build rfl (bld_60_0_2 _ _)) ?_
  refine JL_guard rfl rfl g7 ?_
  refine JL_step rfl rfl rfl (jo_buildSlice rfl (bsl_22_4_0_1_2_3 _ _ _ _)) fun b129 => ?_
  refine JL_guard rfl rfl g7 ?_
  -- stop: op 67 t130 := (call (Call (value f41) (t127 t128 9 t129 2000) (58 60 3 22 3)))   <64 65 66 64 63>   17
  refine JL_lit (enc := encI) b129 4 [1, 1, 1, 0] noFp rfl rfl (by decide) ?_
  refine JL_step rfl rfl rfl (jo_callv rfl rfl Try.call41 rfl (nP1o x127 b129 2000 nP1.1)) fun _ => ?_
  refine JL_guard rfl rfl g7 ?_
  refine JL_pd rfl (det_not rfl) ?_
  refine JL_pd rfl (det_pick_f rfl g7 rfl) ?_
  refine JL_pd rfl (det_move rfl) ?_
  -- stop: guard 70
  skip
  refine JL_is (d0 := 133) false rfl (by rfl) (fun g1 => ?_)
  refine JL_guard rfl rfl g1 ?_
  refine JL_step rfl rfl rfl (jo_call rfl rfl Try.call53 rfl (prices_j)) fun x134 => ?_
  refine JL_guard rfl rfl g1 ?_
  refine JL_pd rfl (det_build rfl (bld_60_0_2 _ _)) ?_
  refine JL_guard rfl rfl g1 ?_
  refine JL_step rfl rfl rfl (jo_buildSlice rfl (bsl_22_4_0_1_2_3 _ _ _ _)) fun b136 => ?_
  refine JL_guard rfl rfl g1 ?_
  -- stop: op 74 t137 := (call (Call (value f41) (t134 t135 9 t136 1999) (58 60 3 22 3)))   <71 72 73 71 70>   17
  refine JL_lit (enc := encI) b136 4 [1, 1, 1, 0] noFp rfl rfl (by decide) ?_
  refine JL_step rfl rfl rfl (jo_callv rfl rfl Try.call41 rfl (nP1o x134 b136 1999 nP1.2)) fun _ => ?_
  refine JL_pd rfl (det_pick_f rfl g1 rfl) ?_
  refine JL_pd rfl (det_move rfl) ?_
  -- stop: guard 76
  skip
  refine JL_is (d0 := 139) false rfl (by rfl) (fun g1 => ?_)
  refine JL_guard rfl rfl g1 ?_
  refine JL_step rfl rfl rfl (jo_call rfl rfl Try.call54 rfl (told_j)) fun x140 => ?_
  refine JL_guard rfl rfl g1 ?_
  refine JL_step rfl rfl rfl (jo_buildSlice rfl (bsl_22_5_0_1_2_3_4 _ _ _ _ _)) fun b141 => ?_
  refine JL_guard rfl rfl g1 ?_
  -- stop: op 79 t142 := (call (Call (value f50) (t140 t141) (33 22)))   <77 78 77 76>   17
  refine JL_lit (enc := encI) b141 5 [50, 30, 1, 109, 10] noFp rfl rfl (by decide) ?_
  refine JL_step rfl rfl rfl (jo_callv rfl rfl Try.call50 rfl (nP2o x140 b141 [50, 30, 1, 109, 10] (by decide) nP2.1)) fun _ => ?_
  refine JL_guard rfl rfl g1 ?_
  refine JL_pd rfl (det_not rfl) ?_
  refine JL_pd rfl (det_pick_f rfl g1 rfl) ?_
  refine JL_pd rfl (det_move rfl) ?_
  -- stop: guard 82
  skip
  refine JL_is (d0 := 145) false rfl (by rfl) (fun g1 => ?_)
  refine JL_guard rfl rfl g1 ?_
  refine JL_step rfl rfl rfl (jo_call rfl rfl Try.call54 rfl (told_j)) fun x146 => ?_
  refine JL_guard rfl rfl g1 ?_
  refine JL_step rfl rfl rfl (jo_buildSlice rfl (bsl_22_5_0_1_2_3_4 _ _ _ _ _)) fun b147 => ?_
  refine JL_guard rfl rfl g1 ?_
  -- stop: op 85 t148 := (call (Call (value f50) (t146 t147) (33 22)))   <83 84 83 82>   17
  refine JL_lit (enc := encI) b147 5 [50, 30, 1, 108, 10] noFp rfl rfl (by decide) ?_
  refine JL_step rfl rfl rfl (jo_callv rfl rfl Try.call50 rfl (nP2o x146 b147 [50, 30, 1, 108, 10] (by decide) nP2.2)) fun _ => ?_
  refine JL_pd rfl (det_pick_f rfl g1 rfl) ?_
  refine JL_nil ?_
  refine JE_seq ?_
  -- stop: cond
  refine JC_cond rfl (fun h1 => ?_) (fun h1 => ?_)
  · cases h1
  refine JC_skip ?_
  refine JE_seq ?_
  refine JC_seq ?_
  refine JC_region ?_
  refine JL_step rfl rfl rfl (jo_call rfl rfl Try.call53 rfl (prices_j)) fun x151 => ?_
  refine JL_pd rfl (det_build rfl (bld_60_1 _)) ?_
  -- stop: op  2 t153 := (call (Call (value f32) (t151 t152 9) (58 60 3)))   <0 1 0>   20
  refine JL_step rfl rfl rfl (jo_call rfl rfl Try.call32 rfl (nBe x151 ⟨0, 4, 0⟩ 9 nB3.1 nB3.2)) fun x153 => ?_
  refine JL_pd rfl (det_move rfl) ?_
  refine JL_pd rfl (det_extract rfl rfl) ?_
  refine JL_pd rfl (det_extract rfl rfl) ?_
  refine JL_pd rfl (det_extract rfl rfl) ?_
  refine JL_pd rfl (det_assign rfl) ?_
  refine JL_nil ?_
  refine JE_seq ?_
  refine JC_seq ?_
  refine JC_region ?_
  refine JL_step rfl rfl rfl (jo_call rfl rfl Try.call53 rfl (prices_j)) fun x158 => ?_
  refine JL_pd rfl (det_build rfl (bld_60_0 _)) ?_
  -- stop: op  2 t160 := (call (Call (value f32) (t158 t159 9) (58 60 3)))   <0 1 0>   21
  refine JL_step rfl rfl rfl (jo_call rfl rfl Try.call32 rfl (nBe x158 ⟨13, 0, 0⟩ 9 nB4.1 nB4.2)) fun x160 => ?_
  refine JL_pd rfl (det_move rfl) ?_
  refine JL_pd rfl (det_extract rfl rfl) ?_
  refine JL_pd rfl (det_extract rfl rfl) ?_
  refine JL_pd rfl (det_extract rfl rfl) ?_
  refine JL_pd rfl (det_assign rfl) ?_
  refine JL_nil ?_
  refine JE_seq ?_
  refine JC_seq ?_
  refine JC_region ?_
  refine JL_step rfl rfl rfl (jo_call rfl rfl Try.call53 rfl (prices_j)) fun x165 => ?_
  refine JL_pd rfl (det_build rfl (bld_60)) ?_
  -- stop: op  2 t167 := (call (Call (value f32) (t165 t166 24) (58 60 3)))   <0 1 0>   22
  refine JL_step rfl rfl rfl (jo_call rfl rfl Try.call32 rfl (nBe x165 ⟨0, 0, 0⟩ 24 nB5.1 nB5.2)) fun x167 => ?_
  refine JL_pd rfl (det_move rfl) ?_
  refine JL_pd rfl (det_extract rfl rfl) ?_
  refine JL_pd rfl (det_extract rfl rfl) ?_
  refine JL_pd rfl (det_extract rfl rfl) ?_
  refine JL_pd rfl (det_assign rfl) ?_
  refine JL_nil ?_
  refine JE_seq ?_
  refine JC_seq ?_
  refine JC_region ?_
  refine JL_step rfl rfl rfl (jo_buildSlice rfl (bsl_22_2_0_1 _ _)) fun b172 => ?_
  -- stop: op  1 t173 := (call (Call (value f17) (100 t172) (3 22)))   <0>   23
  refine JL_lit (enc := encI) b172 2 [0, 0] noFp rfl rfl (by decide) ?_
  refine JL_step rfl rfl rfl (jo_callv rfl rfl Try.call17 rfl (nSe 100 (some ⟨b172, 0, none⟩) 2 [0, 0] nS1.2.2.1 (by decide))) fun _ => ?_
  refine JL_pd rfl (det_move rfl) ?_
  refine JL_pd rfl (det_extract rfl rfl) ?_
  refine JL_pd rfl (det_extract rfl rfl) ?_
  refine JL_pd rfl (det_assign rfl) ?_
  refine JL_nil ?_
  refine JE_seq ?_
  refine JC_seq ?_
  refine JC_region ?_
  refine JL_step rfl rfl rfl (jo_buildSlice rfl (bsl_22_2_0_1 _ _)) fun b177 => ?_
  -- stop: op  1 t178 := (call (Call (value f17) ((neg Int instNegInt 1) t177) (3 22)))   <0>   24
  refine JL_lit (enc := encI) b177 2 [0, 0] noFp rfl rfl (by decide) ?_
  refine JL_step rfl rfl rfl (jo_callv rfl rfl Try.call17 rfl (nSe (-1) (some ⟨b177, 0, none⟩) 2 [0, 0] nS1.2.2.2.1 (by decide))) fun _ => ?_
  refine JL_pd rfl (det_move rfl) ?_
  refine JL_pd rfl (det_extract rfl rfl) ?_
  refine JL_pd rfl (det_extract rfl rfl) ?_
  refine JL_pd rfl (det_assign rfl) ?_
  refine JL_nil ?_
  refine JE_seq ?_
  refine JC_seq ?_
  refine JC_region ?_
  -- stop: op  0 t182 := (makeSlice 22 11 11)   25
  refine JL_step rfl rfl rfl (jo_makeSlice (n := 11) (zv := I 0) (z := 1) (bytes := 8) rfl rfl rfl Try.underlying22 (by kernel_rfl) (by decide) (by decide)) fun b182 => ?_
  -- stop: op  1 t183 := (call (Call (value f17) (1 t182) (3 22)))   <0>   25
  refine JL_slice (enc := encI) (v := .slice (some ⟨b182, 0, none⟩) 11 11) (List.replicate 11 0) noFp z11 (show 11 = (List.replicate 11 (0 : Int)).length from rfl) ?_
  rintro ka kc hkv
  cases hkv
  refine JL_step rfl rfl rfl (jo_callv rfl rfl Try.call17 rfl (nSe3 b182)) fun _ => ?_
  refine JL_pd rfl (det_move rfl) ?_
  refine JL_pd rfl (det_extract rfl rfl) ?_
  refine JL_pd rfl (det_extract rfl rfl) ?_
  refine JL_pd rfl (det_assign rfl) ?_
  refine JL_nil ?_
  refine JE_seq ?_
  refine JC_seq ?_
  refine JC_region ?_
  -- stop: op  0 t187 := (call (Call (value f54) () ()))   26
  refine JL_step rfl rfl rfl (jo_callx rfl rfl Try.call54 rfl (told_o) (List.Perm.refl _)) fun x187 => ?_
  refine JL_pd rfl (det_build rfl (bld_94_0_1_2 _ _ _)) ?_
  refine JL_step rfl rfl rfl (jo_buildSlice rfl (bsl_33_1_0 _ _ _)) fun b189 => ?_
  refine JL_step rfl rfl rfl (jo_append el_33 rfl rfl rfl rfl (by omega)) fun b190 => ?_
  -- stop: op  4 t191 := (call (Call (value f23) (t190 1 1) (33 3 3)))   <3 3>   26
  refine JL_slice (enc := encM) (v := .slice (some ⟨b190.1, 0, none⟩) 3 b190.2) td3 noFp rfl rfl ?_
  rintro ka kc hkv
  cases hkv
  refine JL_know (R' := KAnd (KSl (some ⟨b190.1, 0, none⟩) 3 b190.2 encM td3) _) (fun w h => ⟨h.1, h⟩) ?_
  refine JL_step rfl rfl rfl (jo_callv rfl rfl Try.call23 rfl (nT3o (some ⟨b190.1, 0, none⟩) b190.2)) fun _ => ?_
  refine JL_pd rfl (det_move rfl) ?_
  refine JL_pd rfl (det_extract rfl rfl) ?_
  refine JL_pd rfl (det_extract rfl rfl) ?_
  refine JL_step rfl rfl rfl (jo_alloc0 Try.zeroValue36 rfl) fun b15 => ?_
  refine JL_step0 rfl rfl (jo_store rfl rfl rfl (by first | (simp only [splice_norm]; done) | (simp only [splice_norm]; rfl) | rfl) Try.sizeOf36 rfl rfl) fun _ => ?_
  refine JL_pd rfl (det_assign rfl) ?_
  refine JL_nil ?_
  refine JE_seq ?_
  refine JC_seq ?_
  refine JC_region ?_
  refine JL_step rfl rfl rfl (jo_call rfl rfl Try.call54 rfl (told_j)) fun x195 => ?_
  -- stop: op  1 t196 := (call (Call (value f23) (t195 1 6) (33 3 3)))   <0 0>   27
  refine JL_step rfl rfl rfl (jo_callv rfl rfl Try.call23 rfl (nTe x195 1 6 nT1.2.2.2 (by decide))) fun _ => ?_
  refine JL_pd rfl (det_move rfl) ?_
  refine JL_pd rfl (det_extract rfl rfl) ?_
  refine JL_pd rfl (det_extract rfl rfl) ?_
  refine JL_step rfl rfl rfl (jo_alloc0 Try.zeroValue36 rfl) fun b17 => ?_
  refine JL_step0 rfl rfl (jo_store rfl rfl rfl (by first | (simp only [splice_norm]; done) | (simp only [splice_norm]; rfl) | rfl) Try.sizeOf36 rfl rfl) fun _ => ?_
  refine JL_pd rfl (det_assign rfl) ?_
  refine JL_nil ?_
  refine JE_seq ?_
  refine JC_seq ?_
  refine JC_region ?_
  -- stop: op  0 t200 := (call (Call (value f23) ((slice none 0 0) 1 1) (33 3 3)))   28
  refine JL_step rfl rfl rfl (jo_callv rfl rfl Try.call23 rfl (nTn)) fun _ => ?_
  refine JL_pd rfl (det_move rfl) ?_
  refine JL_pd rfl (det_extract rfl rfl) ?_
  refine JL_pd rfl (det_extract rfl rfl) ?_
  refine JL_step rfl rfl rfl (jo_alloc0 Try.zeroValue36 rfl) fun b19 => ?_
  refine JL_step0 rfl rfl (jo_store rfl rfl rfl (by first | (simp only [splice_norm]; done) | (simp only [splice_norm]; rfl) | rfl) Try.sizeOf36 rfl rfl) fun _ => ?_
  refine JL_pd rfl (det_assign rfl) ?_
  refine JL_nil ?_
  refine JE_seq ?_
  refine JC_seq ?_
  refine JC_region ?_
  refine JL_pd rfl (det_build rfl (bld_94_0_1 _ _)) ?_
  refine JL_step rfl rfl rfl (jo_buildSlice rfl (bsl_33_1_0 _ _ _)) fun b205 => ?_
  -- stop: op  2 t206 := (call (Call (value f21) (t205) (33)))   <1>   29
  refine JL_lit (enc := encM) b205 1 [⟨61, 1, 0⟩] noFp rfl rfl (by decide) ?_
  refine JL_step rfl rfl rfl (jo_callv rfl rfl Try.call21 rfl (nLe (some ⟨b205, 0, none⟩) 1 [⟨61, 1, 0⟩] nL1.1 (by decide) (by decide))) fun _ => ?_
  refine JL_pd rfl (det_move rfl) ?_
  refine JL_pd rfl (det_extract rfl rfl) ?_
  refine JL_pd rfl (det_extract rfl rfl) ?_
  refine JL_pd rfl (det_assign rfl) ?_
  refine JL_pd rfl (det_assign rfl) ?_
  refine JL_nil ?_
  refine JE_seq ?_
  refine JC_seq ?_
  refine JC_region ?_
  -- stop: op  0 t210 := (makeSlice 33 31 31)   30
  refine JL_step rfl rfl rfl (jo_makeSlice (n := 31) (zv := .agg #[I 0, I 0, I 0]) (z := 3) (bytes := 24) rfl rfl rfl Try.underlying33 (by kernel_rfl) (by decide) (by decide)) fun b210 => ?_
  -- stop: op  1 t211 := (call (Call (value f21) (t210) (33)))   <0>   30
  refine JL_slice (enc := encM) (v := .slice (some ⟨b210, 0, none⟩) 31 31) (List.replicate 31 zM) noFp z31 (show 31 = (List.replicate 31 zM).length from rfl) ?_
  rintro ka kc hkv
  cases hkv
  refine JL_step rfl rfl rfl (jo_callv rfl rfl Try.call21 rfl (nLe3 b210)) fun _ => ?_
  refine JL_pd rfl (det_move rfl) ?_
  refine JL_pd rfl (det_extract rfl rfl) ?_
  refine JL_pd rfl (det_extract rfl rfl) ?_
  refine JL_pd rfl (det_assign rfl) ?_
  refine JL_pd rfl (det_assign rfl) ?_
  refine JL_nil ?_
  refine JE_seq ?_
  refine JC_seq ?_
  -- stop: draw
  refine JC_cutF (γ := Nat × Nat) (fun _ => True) (fun q => [(25, .slice (some ⟨q.1, 0, none⟩) 4 4), (26, .slice (some ⟨q.2, 0, none⟩) 7 7)]) (fun q => [ow (.slice (some ⟨q.1, 0, none⟩) 4 4) 96 7 4 (prL.flatMap encO), ow (.slice (some ⟨q.2, 0, none⟩) 7 7) 96 7 7 ((List.replicate 7 zO).flatMap encO)]) [] (fun K hK => ?_) (fun q _ => ?_)
  · refine JC_draw [] (by kernel_rfl) ?_
    refine JA_ready (rs := [0, 1]) (by kernel_rfl) rfl ?_
    refine JAl_cons (i := 0) rfl rfl (jo_call rfl rfl Try.call53 rfl (prices_o)) (fun _ => ⟨hsub_drop 1 rfl, fun _ h => h.2⟩) (fun x214 => ?_) ?_
    · refine JA_pd (i := 2) rfl (by kernel_rfl) rfl rfl (det_assign rfl) ?_
      refine JA_one (i := 1) (by kernel_rfl) rfl rfl (jo_makeSlice (n := 7) (zv := .agg #[I 0, I 0, I 0, I 0, I 0, I 0, I 0]) (z := 7) (bytes := 56) rfl rfl rfl Try.underlying58 (by kernel_rfl) (by decide) (by decide)) (fun _ => ⟨hsub_drop 1 rfl, fun _ h => h⟩) fun b215 => ?_
      refine JA_pd (i := 3) rfl (by kernel_rfl) rfl rfl (det_assign rfl) ?_
      refine JA_done (by kernel_rfl) ?_
      exact JE_cutF hK (x214, b215) trivial (stsub_cons rfl (stsub_cons rfl stsub_nil)) (ht_ow rfl rfl (ht_ow rfl z7 ht_nil))
    refine JAl_cons (i := 1) rfl rfl (jo_makeSlice (n := 7) (zv := .agg #[I 0, I 0, I 0, I 0, I 0, I 0, I 0]) (z := 7) (bytes := 56) rfl rfl rfl Try.underlying58 (by kernel_rfl) (by decide) (by decide)) (fun _ => ⟨hsub_drop 1 rfl, fun _ h => h⟩) (fun b215 => ?_) ?_
    · refine JA_one (i := 0) (by kernel_rfl) rfl rfl (jo_call rfl rfl Try.call53 rfl (prices_o)) (fun _ => ⟨hsub_drop 1 rfl, fun _ h => h.2⟩) fun x214 => ?_
      refine JA_pd (i := 2) rfl (by kernel_rfl) rfl rfl (det_assign rfl) ?_
      refine JA_pd (i := 3) rfl (by kernel_rfl) rfl rfl (det_assign rfl) ?_
      refine JA_done (by kernel_rfl) ?_
      exact JE_cutF hK (x214, b215) trivial (stsub_cons rfl (stsub_cons rfl stsub_nil)) (ht_ow rfl rfl (ht_ow rfl z7 ht_nil))
    exact JAl_nil
  dsimp only [List.cons_append, List.nil_append]
  refine JC_seq ?_
  refine JC_region ?_
  refine JL_pd rfl (det_move rfl) ?_
  refine JL_pd rfl (det_indexOwn (i := 3) rfl rfl (by first | rfl | omega) (by first | assumption | omega) Try.runUnderlying58 Try.sizeOf96) ?_
  refine JL_pd rfl (det_fieldAddr rfl fo_96_2) ?_
  refine JL_pd rfl (det_fieldAddr rfl fo_36_1) ?_
  refine JL_step0 rfl rfl (jo_storeO (xs' := prW.flatMap encO) (vs := [I 24]) rfl rfl rfl rfl Try.sizeOf3 (by decide) rfl) fun _ => ?_
  refine JL_nil ?_
  refine JE_seq ?_
  refine JC_seq ?_
  refine JC_region ?_
  -- stop: op  0 t221 := (call (Call (value f48) ((slice none 0 0)) (33)))   33
  refine JL_slice (enc := encO) (v := .slice (some ⟨q.1, 0, none⟩) 4 4) prW noFp rfl rfl ?_
  rintro ka kc hkv
  cases hkv
  refine JL_slice (enc := encO) (v := .slice (some ⟨q.2, 0, none⟩) 7 7) (List.replicate 7 zO) noFp rfl (show 7 = (List.replicate 7 zO).length from rfl) ?_
  rintro ka kc hkv
  cases hkv
  refine JL_step rfl rfl rfl (jo_call rfl rfl Try.call48 rfl (nSh0)) fun x221 => ?_
  refine JL_pd rfl (det_move rfl) ?_
  refine JL_pd rfl (det_extract rfl rfl) ?_
  refine JL_pd rfl (det_extract rfl rfl) ?_
  refine JL_pd rfl (det_assign rfl) ?_
  refine JL_pd rfl (det_assign rfl) ?_
  refine JL_nil ?_
  refine JE_seq ?_
  refine JC_seq ?_
  refine JC_region ?_
  refine JL_pd rfl (det_move rfl) ?_
  refine JL_pd rfl (det_eql rfl rfl) ?_
  refine JL_pd rfl (det_move rfl) ?_
  -- stop: guard 2
  skip
  refine JL_is (d0 := 226) true rfl (by rfl) (fun g1 => ?_)
  refine JL_guard rfl rfl g1 ?_
  refine JL_pd rfl (det_move rfl) ?_
  refine JL_guard rfl rfl g1 ?_
  refine JL_pd rfl (det_eql rfl rfl) ?_
  refine JL_pd rfl (det_pick_t rfl g1 rfl) ?_
  refine JL_pd rfl (det_move rfl) ?_
  refine JL_is (d0 := 230) true rfl (by rfl) (fun g2 => ?_)
  refine JL_guard rfl rfl g2 ?_
  refine JL_pd rfl (det_move rfl) ?_
  refine JL_guard rfl rfl g2 ?_
  refine JL_pd rfl (det_eql rfl rfl) ?_
  refine JL_pd rfl (det_pick_t rfl g2 rfl) ?_
  refine JL_pd rfl (det_move rfl) ?_
  refine JL_is (d0 := 234) true rfl (by rfl) (fun g3 => ?_)
  refine JL_guard rfl rfl g3 ?_
  refine JL_pd rfl (det_move rfl) ?_
  refine JL_guard rfl rfl g3 ?_
  refine JL_pd rfl (det_eql rfl rfl) ?_
  refine JL_pd rfl (det_pick_t rfl g3 rfl) ?_
  refine JL_pd rfl (det_move rfl) ?_
  refine JL_is (d0 := 238) true rfl (by rfl) (fun g4 => ?_)
  refine JL_guard rfl rfl g4 ?_
  refine JL_pd rfl (det_move rfl) ?_
  refine JL_guard rfl rfl g4 ?_
  refine JL_pd rfl (det_eql rfl rfl) ?_
  refine JL_pd rfl (det_pick_t rfl g4 rfl) ?_
  refine JL_pd rfl (det_move rfl) ?_
  refine JL_is (d0 := 242) true rfl (by rfl) (fun g5 => ?_)
  refine JL_guard rfl rfl g5 ?_
  refine JL_pd rfl (det_move rfl) ?_
  refine JL_guard rfl rfl g5 ?_
  refine JL_pd rfl (det_eql rfl rfl) ?_
  refine JL_pd rfl (det_pick_t rfl g5 rfl) ?_
  refine JL_pd rfl (det_move rfl) ?_
  refine JL_is (d0 := 246) true rfl (by rfl) (fun g6 => ?_)
  refine JL_guard rfl rfl g6 ?_
  refine JL_pd rfl (det_move rfl) ?_
  refine JL_guard rfl rfl g6 ?_
  refine JL_pd rfl (det_eql rfl rfl) ?_
  refine JL_pd rfl (det_pick_t rfl g6 rfl) ?_
  refine JL_pd rfl (det_move rfl) ?_
  refine JL_is (d0 := 250) true rfl (by rfl) (fun g7 => ?_)
  refine JL_guard rfl rfl g7 ?_
  refine JL_pd rfl (det_move rfl) ?_
  refine JL_guard rfl rfl g7 ?_
  refine JL_pd rfl (det_eql rfl rfl) ?_
  refine JL_pd rfl (det_pick_t rfl g7 rfl) ?_
  refine JL_pd rfl (det_move rfl) ?_
  refine JL_is (d0 := 254) true rfl (by rfl) (fun g8 => ?_)
  refine JL_guard rfl rfl g8 ?_
  refine JL_pd rfl (det_move rfl) ?_
  refine JL_guard rfl rfl g8 ?_
  refine JL_pd rfl (det_eql rfl rfl) ?_
  refine JL_pd rfl (det_pick_t rfl g8 rfl) ?_
  refine JL_pd rfl (det_move rfl) ?_
  refine JL_is (d0 := 258) true rfl (by rfl) (fun g9 => ?_)
  refine JL_guard rfl rfl g9 ?_
  refine JL_pd rfl (det_move rfl) ?_
  refine JL_guard rfl rfl g9 ?_
  refine JL_pd rfl (det_eql rfl rfl) ?_
  refine JL_pd rfl (det_pick_t rfl g9 rfl) ?_
  refine JL_pd rfl (det_move rfl) ?_
  refine JL_is (d0 := 262) true rfl (by rfl) (fun g10 => ?_)
  refine JL_guard rfl rfl g10 ?_
  refine JL_pd rfl (det_move rfl) ?_
  refine JL_guard rfl rfl g10 ?_
  refine JL_pd rfl (det_eql rfl rfl) ?_
  refine JL_pd rfl (det_pick_t rfl g10 rfl) ?_
  refine JL_pd rfl (det_move rfl) ?_
  refine JL_is (d0 := 266) true rfl (by rfl) (fun g11 => ?_)
  refine JL_guard rfl rfl g11 ?_
  refine JL_pd rfl (det_move rfl) ?_
  refine JL_guard rfl rfl g11 ?_
  -- stop: op 44 t268 := (call (Call (value f40) (t267) (58)))   <43 42 42>   34
  refine JL_step rfl rfl rfl (jo_callv rfl rfl Try.call40 rfl (nCo (some ⟨q.1, 0, none⟩) 4 prW nC1.1)) fun _ => ?_
  refine JL_guard rfl rfl g11 ?_
  refine JL_pd rfl (det_eql rfl rfl) ?_
  refine JL_pd rfl (det_pick_t rfl g11 rfl) ?_
  refine JL_pd rfl (det_move rfl) ?_
  -- stop: guard 47
  skip
  refine JL_is (d0 := 271) true rfl (by rfl) (fun g1 => ?_)
  refine JL_guard rfl rfl g1 ?_
  refine JL_pd rfl (det_move rfl) ?_
  refine JL_guard rfl rfl g1 ?_
  -- stop: op 49 t273 := (call (Call (value f40) (t272) (58)))   <48 47 47>   34
  refine JL_step rfl rfl rfl (jo_callv rfl rfl Try.call40 rfl (nC7 q.2)) fun _ => ?_
  refine JL_guard rfl rfl g1 ?_
  refine JL_pd rfl (det_eql rfl rfl) ?_
  refine JL_pd rfl (det_pick_t rfl g1 rfl) ?_
  refine JL_pd rfl (det_move rfl) ?_
  -- stop: guard 52
  skip
  refine JL_is (d0 := 276) true rfl (by rfl) (fun g1 => ?_)
  refine JL_guard rfl rfl g1 ?_
  refine JL_pd rfl (det_move rfl) ?_
  refine JL_guard rfl rfl g1 ?_
  refine JL_pd rfl (det_eql rfl rfl) ?_
  refine JL_pd rfl (det_pick_t rfl g1 rfl) ?_
  refine JL_pd rfl (det_move rfl) ?_
  refine JL_is (d0 := 280) true rfl (by rfl) (fun g2 => ?_)
  refine JL_guard rfl rfl g2 ?_
  refine JL_pd rfl (det_move rfl) ?_
  refine JL_guard rfl rfl g2 ?_
  refine JL_pd rfl (det_len rfl Try.runUnderlying22) ?_
  refine JL_guard rfl rfl g2 ?_
  refine JL_pd rfl (det_eql rfl rfl) ?_
  refine JL_pd rfl (det_pick_t rfl g2 rfl) ?_
  refine JL_pd rfl (det_move rfl) ?_
  refine JL_is (d0 := 285) true rfl (by rfl) (fun g3 => ?_)
  refine JL_guard rfl rfl g3 ?_
  refine JL_step rfl rfl rfl (jo_callv rfl rfl Try.call16 rfl (awake_j)) fun _ => ?_
  refine JL_pd rfl (det_pick_t rfl g3 rfl) ?_
  refine JL_pd rfl (det_assign rfl) ?_
  refine JL_nil ?_
  refine JE_seq ?_
  refine JC_ret ?_
  -- stop: out
  refine JE_out (.inl rfl) () (results1 Try.results15 (res_tmp rfl)) rfl (List.Perm.refl _) (fun _ _ => trivial)
end Go.Proofs.Ytjbmkdbgobmclaa

/- PRINTED BY gen.py: the conditions of functions. -/
import Derived.Test.YtlnojddenddemaaNt
set_option linter.unusedVariables false
set_option linter.unusedSimpArgs false
set_option maxRecDepth 100000
noncomputable section
namespace Go.Det
open Go.Proofs
-- lemmata/dfa.Longest
noncomputable def body19 : Code := Cd.bO Try.f19
theorem df19 : dfunc Try.prog 19 = some ⟨Try.f19, body19⟩ := by kernel_rfl
theorem dp19_5 : drawPairs (Cd.rO (Cd.sL (Cd.bB (Cd.sL (Cd.sR (Cd.lB (Cd.bB (Cd.sR (Cd.sL (Cd.sR (Cd.sR body19))))))))))) = some [] := by kernel_rfl
def A19_1 (v0 v1 v4 v5 v6 v7 v8 : Value) (h : DH) (Z : Value → DH → Prop) : Prop := ∀ a : DA, DA.val a 0 = v0 → DA.val a 1 = v1 → DA.val a 4 = v4 → DA.val a 5 = v5 → DA.val a 6 = v6 → DA.val a 7 = v7 → DA.val a 8 = v8 → W Try.prog (Cd.bB (Cd.sR (Cd.sL (Cd.sR (Cd.sR body19))))) a h (kont Try.prog [.block 0, .seq (Cd.sR (Cd.sR (Cd.sR body19)))] (Fin Try.prog Try.f19 Z))
theorem R19 {v0 v1 : Value} {h : DH} {Z : Value → DH → Prop} (H : A19_1 v0 v1 (Value.int .i64 0) (Value.int .i64 0) (Value.bool false) (Value.int .i64 0) (Value.int .i64 0) h Z) : CP Try.prog 19 [v0, v1] h Z := by
  refine CP_of df19 ?_
  refine W_seq ?_
  refine W_plain ?_
  refine VO_5 s_assign ?_
  refine VO_5 s_assign ?_
  refine VO_5 s_assign ?_
  refine VO_nil ?_
  refine kont_seq ?_
  refine W_seq ?_
  refine W_plain ?_
  refine VO_5 s_assign ?_
  refine VO_nil ?_
  refine kont_seq ?_
  refine W_seq ?_
  refine W_seq ?_
  refine W_plain ?_
  refine VO_5 s_assign ?_
  refine VO_nil ?_
  refine kont_seq ?_
  refine W_block ?_
  exact H _ rfl rfl rfl rfl rfl rfl rfl

theorem R19_1 {v0 v1 v4 v5 v6 v7 v8 : Value} {h : DH} {Z : Value → DH → Prop} (H : obP (lenStr v1) fun v11_1 => obP (ibin .lss v8 v11_1) fun v12_2 => obP (gotB v12_2 true) fun w3 => g1 w3 (ibin .geq (sel w3 v7 undef) (Value.int .i64 0)) fun v15_4 => obP (pk v12_2 v15_4 (Value.bool false)) fun v16_5 => obP (gotB v16_5 true) fun w6 => g1 w6 (lenS (sel w6 v0 undef)) fun v20_7 => g1 w6 (ibin .lss (sel w6 v7 undef) v20_7) fun v21_8 => obP (pk v16_5 v21_8 (Value.bool false)) fun v22_9 => obP (asB v22_9) fun b10 => bP b10 (obP (ixStr v1 v8) fun v29_11 => obP (iaS 257 v0 v7) fun v30_12 => obP (fa 0 v30_12) fun v31_13 => obP (iaA 256 1 v31_13 v29_11) fun v32_14 => obP (ld1 h v32_14) fun v33_15 => obP (ibin .geq v33_15 (Value.int .i64 0)) fun v35_16 => obP (gotB v35_16 true) fun w17 => g1 w17 (lenS (sel w17 v0 undef)) fun v39_18 => g1 w17 (ibin .lss (sel w17 v33_15 undef) v39_18) fun v40_19 => obP (pk v35_16 v40_19 (Value.bool false)) fun v41_20 => obP (gotB v41_20 true) fun w21 => g1 w21 (iaS 257 (sel w21 v0 undef) (sel w21 v33_15 undef)) fun v45_22 => g1 w21 (fa 256 v45_22) fun v46_23 => g1 w21 (ld1 h v46_23) fun v47_24 => g1 w21 (ibin .gtr v47_24 (Value.int .i64 0)) fun v48_25 => obP (pk v41_20 v48_25 (Value.bool false)) fun v49_26 => obP (asB v49_26) fun b27 => bP b27 (obP (iaS 257 v0 v33_15) fun v52_28 => obP (fa 256 v52_28) fun v53_29 => obP (ld1 h v53_29) fun v54_30 => obP (ibin .sub v54_30 (Value.int .i64 1)) fun v55_31 => obP (ibin .add v8 (Value.int .i64 1)) fun v57_32 => obP (ibin .add v8 (Value.int .i64 1)) fun v24_33 => A19_1 v0 v1 v55_31 v57_32 (Value.bool true) v33_15 v24_33 h Z) (obP (ibin .add v8 (Value.int .i64 1)) fun v24_34 => A19_1 v0 v1 v4 v5 v6 v33_15 v24_34 h Z)) (Z (.tuple ⟨[v4, v5, v6]⟩) h)) : A19_1 v0 v1 v4 v5 v6 v7 v8 h Z := by
  intro a e0 e1 e4 e5 e6 e7 e8
  subst e0 e1 e4 e5 e6 e7 e8
  refine W_loop ?_
  refine W_seq ?_
  refine W_seq ?_
  refine W_plain ?_
  refine VO_5 s_move ?_
  refine VO_5 s_move ?_
  refine VO_1 (s_lenStr ud9) H fun v11_1 H => ?_
  refine VO_1 s_ibin H fun v12_2 H => ?_
  refine VO_5 s_move ?_
  refine obP_elim H fun w3 ew3 H => ?_
  refine VO_5m rfl ew3 s_move ?_
  refine VO_1g rfl ew3 s_ibin H fun v15_4 H => ?_
  refine VO_1 s_pk H fun v16_5 H => ?_
  refine VO_5 s_move ?_
  refine obP_elim H fun w6 ew6 H => ?_
  refine VO_5m rfl ew6 s_move ?_
  refine VO_5m rfl ew6 s_move ?_
  refine VO_1g rfl ew6 (s_lenS ud35) H fun v20_7 H => ?_
  refine VO_1g rfl ew6 s_ibin H fun v21_8 H => ?_
  refine VO_1 s_pk H fun v22_9 H => ?_
  refine VO_nil ?_
  refine kont_seq ?_
  refine obP_elim H fun b10 eb10 H => W_cond eb10 (bP_imp H (fun H => ?_) (fun H => ?_))
  · refine W_skip ?_
    refine kont_seq ?_
    refine W_seq ?_
    refine W_block ?_
    refine W_seq ?_
    refine W_draw dp19_5 ?_
    refine VO_5 s_move ?_
    refine VO_5 s_move ?_
    refine VO_5 s_move ?_
    refine VO_5 s_move ?_
    refine VO_1 (s_ixStr ts9) H fun v29_11 H => ?_
    refine VO_1 (s_iaS sl35 el35 sz41) H fun v30_12 H => ?_
    refine VO_1 (s_fa tf41_0 rfl) H fun v31_13 H => ?_
    refine VO_1 (s_iaA sl39 ar39 sz3) H fun v32_14 H => ?_
    refine VO_1 (s_load1 ag3) H fun v33_15 H => ?_
    refine VO_5 s_assign ?_
    refine VO_nil ?_
    refine kont_seq ?_
    refine W_seq ?_
    refine W_plain ?_
    refine VO_5 s_move ?_
    refine VO_1 s_ibin H fun v35_16 H => ?_
    refine VO_5 s_move ?_
    refine obP_elim H fun w17 ew17 H => ?_
    refine VO_5m rfl ew17 s_move ?_
    refine VO_5m rfl ew17 s_move ?_
    refine VO_1g rfl ew17 (s_lenS ud35) H fun v39_18 H => ?_
    refine VO_1g rfl ew17 s_ibin H fun v40_19 H => ?_
    refine VO_1 s_pk H fun v41_20 H => ?_
    refine VO_5 s_move ?_
    refine obP_elim H fun w21 ew21 H => ?_
    refine VO_5m rfl ew21 s_move ?_
    refine VO_5m rfl ew21 s_move ?_
    refine VO_1g rfl ew21 (s_iaS sl35 el35 sz41) H fun v45_22 H => ?_
    refine VO_1g rfl ew21 (s_fa tf41_1 rfl) H fun v46_23 H => ?_
    refine VO_1g rfl ew21 (s_load1 ag3) H fun v47_24 H => ?_
    refine VO_1g rfl ew21 s_ibin H fun v48_25 H => ?_
    refine VO_1 s_pk H fun v49_26 H => ?_
    refine VO_nil ?_
    refine kont_seq ?_
    refine obP_elim H fun b27 eb27 H => W_cond eb27 (bP_imp H (fun H => ?_) (fun H => ?_))
    · refine W_plain ?_
      refine VO_5 s_move ?_
      refine VO_5 s_move ?_
      refine VO_1 (s_iaS sl35 el35 sz41) H fun v52_28 H => ?_
      refine VO_1 (s_fa tf41_1 rfl) H fun v53_29 H => ?_
      refine VO_1 (s_load1 ag3) H fun v54_30 H => ?_
      refine VO_1 s_ibin H fun v55_31 H => ?_
      refine VO_5 s_move ?_
      refine VO_1 s_ibin H fun v57_32 H => ?_
      refine VO_5 s_assign ?_
      refine VO_5 s_assign ?_
      refine VO_5 s_assign ?_
      refine VO_nil ?_
      refine kont_block ?_
      refine kont_seq ?_
      refine W_plain ?_
      refine VO_5 s_move ?_
      refine VO_1 s_ibin H fun v24_33 H => ?_
      refine VO_5 s_assign ?_
      refine VO_nil ?_
      exact kont_loop (H _ rfl rfl rfl rfl rfl rfl rfl)
    · refine W_skip ?_
      refine kont_block ?_
      refine kont_seq ?_
      refine W_plain ?_
      refine VO_5 s_move ?_
      refine VO_1 s_ibin H fun v24_34 H => ?_
      refine VO_5 s_assign ?_
      refine VO_nil ?_
      exact kont_loop (H _ rfl rfl rfl rfl rfl rfl rfl)
  · refine W_exit ?_
    refine kont_xs rfl ?_
    refine kont_xl rfl ?_
    refine kont_block ?_
    refine kont_seq ?_
    refine W_seq ?_
    refine W_plain ?_
    refine VO_5 s_move ?_
    refine VO_5 s_move ?_
    refine VO_5 s_move ?_
    refine VO_5 s_assign ?_
    refine VO_5 s_assign ?_
    refine VO_5 s_assign ?_
    refine VO_nil ?_
    refine kont_seq ?_
    refine W_ret ?_
    exact ⟨rfl, obP_of (dres_mk (lm_cons rfl (lm_cons rfl (lm_cons rfl lm_nil)))) H⟩

-- lemmata/lemmatalaw5.DfaWild
noncomputable def body9 : Code := Cd.bO Try.f9
theorem df9 : dfunc Try.prog 9 = some ⟨Try.f9, body9⟩ := by kernel_rfl
theorem dp9_26 : drawPairs (Cd.rO (Cd.sL (Cd.bB (Cd.sL (Cd.sR (Cd.lB (Cd.bB (Cd.sR (Cd.sL (Cd.sR (Cd.sR (Cd.sR (Cd.sR (Cd.sR (Cd.sR (Cd.sR body9)))))))))))))))) = some [] := by kernel_rfl
def A9_1 (v0 v1 v5 v6 : Value) (h : DH) (Z : Value → DH → Prop) : Prop := ∀ a : DA, DA.val a 0 = v0 → DA.val a 1 = v1 → DA.val a 5 = v5 → DA.val a 6 = v6 → W Try.prog (Cd.bB (Cd.sR (Cd.sL (Cd.sR (Cd.sR (Cd.sR (Cd.sR body9))))))) a h (kont Try.prog [.block 0, .seq (Cd.sR (Cd.sR (Cd.sR (Cd.sR (Cd.sR body9)))))] (Fin Try.prog Try.f9 Z))
def A9_2 (v0 v1 v5 v6 v7 v8 : Value) (h : DH) (Z : Value → DH → Prop) : Prop := ∀ a : DA, DA.val a 0 = v0 → DA.val a 1 = v1 → DA.val a 5 = v5 → DA.val a 6 = v6 → DA.val a 7 = v7 → DA.val a 8 = v8 → W Try.prog (Cd.bB (Cd.sR (Cd.sL (Cd.sR (Cd.bB (Cd.sL (Cd.sR (Cd.lB (Cd.bB (Cd.sR (Cd.sL (Cd.sR (Cd.sR (Cd.sR (Cd.sR body9))))))))))))))) a h (kont Try.prog [.block 2, .seq (Cd.sR (Cd.sR (Cd.bB (Cd.sL (Cd.sR (Cd.lB (Cd.bB (Cd.sR (Cd.sL (Cd.sR (Cd.sR (Cd.sR (Cd.sR body9))))))))))))), .block 1, .seq (Cd.sR (Cd.sR (Cd.lB (Cd.bB (Cd.sR (Cd.sL (Cd.sR (Cd.sR (Cd.sR (Cd.sR body9)))))))))), .loop (Cd.lB (Cd.bB (Cd.sR (Cd.sL (Cd.sR (Cd.sR (Cd.sR (Cd.sR body9)))))))), .block 0, .seq (Cd.sR (Cd.sR (Cd.sR (Cd.sR (Cd.sR body9)))))] (Fin Try.prog Try.f9 Z))
def A9_3 (v1 v5 v10 v11 v12 v13 v14 v15 v16 : Value) (h : DH) (Z : Value → DH → Prop) : Prop := ∀ a : DA, DA.val a 1 = v1 → DA.val a 5 = v5 → DA.val a 10 = v10 → DA.val a 11 = v11 → DA.val a 12 = v12 → DA.val a 13 = v13 → DA.val a 14 = v14 → DA.val a 15 = v15 → DA.val a 16 = v16 → W Try.prog (Cd.bB (Cd.sR (Cd.sL (Cd.sR (Cd.sR (Cd.sR (Cd.sR (Cd.sR (Cd.sR (Cd.sR body9)))))))))) a h (kont Try.prog [.block 6, .seq (Cd.sR (Cd.sR (Cd.sR (Cd.sR (Cd.sR (Cd.sR (Cd.sR (Cd.sR body9))))))))] (Fin Try.prog Try.f9 Z))
def A9_4 (v0 v1 v5 v6 v7 v9 : Value) (h : DH) (Z : Value → DH → Prop) : Prop := ∀ a : DA, DA.val a 0 = v0 → DA.val a 1 = v1 → DA.val a 5 = v5 → DA.val a 6 = v6 → DA.val a 7 = v7 → DA.val a 9 = v9 → W Try.prog (Cd.bB (Cd.sR (Cd.sL (Cd.sR (Cd.sR (Cd.bB (Cd.sL (Cd.sR (Cd.lB (Cd.bB (Cd.sR (Cd.sL (Cd.sR (Cd.sR (Cd.sR (Cd.sR body9)))))))))))))))) a h (kont Try.prog [.block 4, .seq (Cd.sR (Cd.sR (Cd.sR (Cd.bB (Cd.sL (Cd.sR (Cd.lB (Cd.bB (Cd.sR (Cd.sL (Cd.sR (Cd.sR (Cd.sR (Cd.sR body9)))))))))))))), .block 1, .seq (Cd.sR (Cd.sR (Cd.lB (Cd.bB (Cd.sR (Cd.sL (Cd.sR (Cd.sR (Cd.sR (Cd.sR body9)))))))))), .loop (Cd.lB (Cd.bB (Cd.sR (Cd.sL (Cd.sR (Cd.sR (Cd.sR (Cd.sR body9)))))))), .block 0, .seq (Cd.sR (Cd.sR (Cd.sR (Cd.sR (Cd.sR body9)))))] (Fin Try.prog Try.f9 Z))
def A9_5 (v10 v11 v12 v14 v15 : Value) (h : DH) (Z : Value → DH → Prop) : Prop := ∀ a : DA, DA.val a 10 = v10 → DA.val a 11 = v11 → DA.val a 12 = v12 → DA.val a 14 = v14 → DA.val a 15 = v15 → W Try.prog (Cd.sR (Cd.sR (Cd.sR (Cd.sR (Cd.sR (Cd.sR (Cd.sR (Cd.sR body9)))))))) a h (kont Try.prog [] (Fin Try.prog Try.f9 Z))
theorem R9 {v0 v1 : Value} {h : DH} {Z : Value → DH → Prop} (H : CP Try.prog 16 [] h fun v17_1 h2 => obP (bnot v17_1) fun v18_3 => obP (asB v18_3) fun b4 => bP b4 (Z (Value.bool false) h2) (obP (lenS v0) fun v20_5 => obP (ibin .gtr v20_5 (Value.int .i64 5)) fun v21_6 => obP (gotB v21_6 false) fun w7 => g1 w7 (lenStr (sel w7 v1 undef)) fun v24_8 => g1 w7 (ibin .gtr v24_8 (Value.int .i64 12)) fun v25_9 => obP (pk v21_6 (Value.bool true) v25_9) fun v26_10 => obP (asB v26_10) fun b11 => bP b11 (Z (Value.bool true) h2) (A9_1 v0 v1 (Value.slice none 0 0) (Value.int .i64 0) h2 Z))) : CP Try.prog 9 [v0, v1] h Z := by
  refine CP_of df9 ?_
  refine W_seq ?_
  refine W_plain ?_
  refine VO_5 s_assign ?_
  refine VO_nil ?_
  refine kont_seq ?_
  refine W_seq ?_
  refine W_seq ?_
  refine W_plain ?_
  refine VO_4 rfl H fun v17_1 h2 H => ?_
  refine VO_1 s_not H fun v18_3 H => ?_
  refine VO_nil ?_
  refine kont_seq ?_
  refine obP_elim H fun b4 eb4 H => W_cond eb4 (bP_imp H (fun H => ?_) (fun H => ?_))
  · refine W_seq ?_
    refine W_plain ?_
    refine VO_5 s_assign ?_
    refine VO_nil ?_
    refine kont_seq ?_
    refine W_ret ?_
    refine kont_xs rfl ?_
    exact ⟨rfl, obP_of (dres_mk (lm_cons rfl lm_nil)) H⟩
  · refine W_skip ?_
    refine kont_seq ?_
    refine W_seq ?_
    refine W_seq ?_
    refine W_plain ?_
    refine VO_5 s_move ?_
    refine VO_1 (s_lenS ud47) H fun v20_5 H => ?_
    refine VO_1 s_ibin H fun v21_6 H => ?_
    refine VO_5 s_move ?_
    refine obP_elim H fun w7 ew7 H => ?_
    refine VO_5m rfl ew7 s_move ?_
    refine VO_1g rfl ew7 (s_lenStr ud9) H fun v24_8 H => ?_
    refine VO_1g rfl ew7 s_ibin H fun v25_9 H => ?_
    refine VO_1 s_pk H fun v26_10 H => ?_
    refine VO_nil ?_
    refine kont_seq ?_
    refine obP_elim H fun b11 eb11 H => W_cond eb11 (bP_imp H (fun H => ?_) (fun H => ?_))
    · refine W_seq ?_
      refine W_plain ?_
      refine VO_5 s_assign ?_
      refine VO_nil ?_
      refine kont_seq ?_
      refine W_ret ?_
      refine kont_xs rfl ?_
      exact ⟨rfl, obP_of (dres_mk (lm_cons rfl lm_nil)) H⟩
    · refine W_skip ?_
      refine kont_seq ?_
      refine W_seq ?_
      refine W_plain ?_
      refine VO_5 s_assign ?_
      refine VO_nil ?_
      refine kont_seq ?_
      refine W_seq ?_
      refine W_seq ?_
      refine W_plain ?_
      refine VO_5 s_assign ?_
      refine VO_nil ?_
      refine kont_seq ?_
      refine W_block ?_
      exact H _ rfl rfl rfl rfl

theorem R9_1 {v0 v1 v5 v6 : Value} {h : DH} {Z : Value → DH → Prop} (H : obP (lenS v0) fun v29_12 => obP (ibin .lss v6 v29_12) fun v30_13 => obP (asB v30_13) fun b14 => bP b14 (obP (iaS 4 v0 v6) fun v35_15 => obP (iaA 4 1 v35_15 (Value.int .i64 3)) fun v36_16 => obP (ld1 h v36_16) fun v37_17 => obP (idiv .rem v37_17 (Value.int .u8 4)) fun v38_18 => obP (cvI .i64 v38_18) fun v39_19 => obP (bld (List.replicate 257 (Value.int .i64 0)) [((256, 1), v39_19)]) fun v40_20 => oh (al 41 (List.replicate 257 (Value.int .i64 0)) h) fun v7_21 h22 => obP (st 257 h22 v7_21 v40_20) fun h23 => A9_2 v0 v1 v5 v6 v7_21 (Value.int .i64 0) h23 Z) (CP Try.prog 19 [v5, v1] h fun v84_24 h25 => obP (ext1 v84_24 0) fun v85_26 => obP (ext1 v84_24 1) fun v86_27 => obP (ext1 v84_24 2) fun v87_28 => A9_3 v1 v5 v85_26 v86_27 v87_28 (Value.int .i64 0) (Value.int .i64 0) (Value.int .i64 0) (Value.int .i64 0) h25 Z)) : A9_1 v0 v1 v5 v6 h Z := by
  intro a e0 e1 e5 e6
  subst e0 e1 e5 e6
  refine W_loop ?_
  refine W_seq ?_
  refine W_seq ?_
  refine W_plain ?_
  refine VO_5 s_move ?_
  refine VO_5 s_move ?_
  refine VO_1 (s_lenS ud47) H fun v29_12 H => ?_
  refine VO_1 s_ibin H fun v30_13 H => ?_
  refine VO_nil ?_
  refine kont_seq ?_
  refine obP_elim H fun b14 eb14 H => W_cond eb14 (bP_imp H (fun H => ?_) (fun H => ?_))
  · refine W_skip ?_
    refine kont_seq ?_
    refine W_seq ?_
    refine W_block ?_
    refine W_seq ?_
    refine W_plain ?_
    refine VO_5 s_move ?_
    refine VO_5 s_move ?_
    refine VO_1 (s_iaS sl47 el47 sz48) H fun v35_15 H => ?_
    refine VO_1 (s_iaA sl48 ar48 sz5) H fun v36_16 H => ?_
    refine VO_1 (s_load1 ag5) H fun v37_17 H => ?_
    refine VO_1 s_idiv H fun v38_18 H => ?_
    refine VO_1 (s_cvI cv5_3) H fun v39_19 H => ?_
    refine VO_1 (s_bld zc41 ud41 hs41 (fil_cons tf41_1 fil_nil) (fil_top rfl)) H fun v40_20 H => ?_
    refine VO_2 (s_al zc41) H fun v7_21 h22 H => ?_
    refine VO_3 (s_store sz41) H fun h23 H => ?_
    refine VO_nil ?_
    refine kont_seq ?_
    refine W_seq ?_
    refine W_seq ?_
    refine W_plain ?_
    refine VO_5 s_assign ?_
    refine VO_nil ?_
    refine kont_seq ?_
    refine W_block ?_
    exact H _ rfl rfl rfl rfl rfl rfl
  · refine W_exit ?_
    refine kont_xs rfl ?_
    refine kont_xl rfl ?_
    refine kont_block ?_
    refine kont_seq ?_
    refine W_seq ?_
    refine W_plain ?_
    refine VO_5 s_move ?_
    refine VO_5 s_move ?_
    refine VO_4 rfl H fun v84_24 h25 H => ?_
    refine VO_5 s_move ?_
    refine VO_1 s_ext H fun v85_26 H => ?_
    refine VO_1 s_ext H fun v86_27 H => ?_
    refine VO_1 s_ext H fun v87_28 H => ?_
    refine VO_5 s_assign ?_
    refine VO_5 s_assign ?_
    refine VO_5 s_assign ?_
    refine VO_nil ?_
    refine kont_seq ?_
    refine W_seq ?_
    refine W_plain ?_
    refine VO_5 s_assign ?_
    refine VO_5 s_assign ?_
    refine VO_5 s_assign ?_
    refine VO_nil ?_
    refine kont_seq ?_
    refine W_seq ?_
    refine W_seq ?_
    refine W_plain ?_
    refine VO_5 s_assign ?_
    refine VO_nil ?_
    refine kont_seq ?_
    refine W_block ?_
    exact H _ rfl rfl rfl rfl rfl rfl rfl rfl rfl

theorem R9_2 {v0 v1 v5 v6 v7 v8 : Value} {h : DH} {Z : Value → DH → Prop} (H : obP (ibin .lss v8 (Value.int .i64 256)) fun v42_29 => obP (asB v42_29) fun b30 => bP b30 (obP (fa 0 v7) fun v46_31 => obP (iaA 256 1 v46_31 v8) fun v47_32 => obP (st 1 h v47_32 (Value.int .i64 (-1))) fun h33 => obP (ibin .add v8 (Value.int .i64 1)) fun v44_34 => A9_2 v0 v1 v5 v6 v7 v44_34 h33 Z) (A9_4 v0 v1 v5 v6 v7 (Value.int .i64 0) h Z)) : A9_2 v0 v1 v5 v6 v7 v8 h Z := by
  intro a e0 e1 e5 e6 e7 e8
  subst e0 e1 e5 e6 e7 e8
  refine W_loop ?_
  refine W_seq ?_
  refine W_seq ?_
  refine W_plain ?_
  refine VO_5 s_move ?_
  refine VO_1 s_ibin H fun v42_29 H => ?_
  refine VO_nil ?_
  refine kont_seq ?_
  refine obP_elim H fun b30 eb30 H => W_cond eb30 (bP_imp H (fun H => ?_) (fun H => ?_))
  · refine W_skip ?_
    refine kont_seq ?_
    refine W_seq ?_
    refine W_block ?_
    refine W_plain ?_
    refine VO_5 s_move ?_
    refine VO_1 (s_fa tf41_0 rfl) H fun v46_31 H => ?_
    refine VO_1 (s_iaA sl39 ar39 sz3) H fun v47_32 H => ?_
    refine VO_3 (s_store sz3) H fun h33 H => ?_
    refine VO_nil ?_
    refine kont_block ?_
    refine kont_seq ?_
    refine W_plain ?_
    refine VO_5 s_move ?_
    refine VO_1 s_ibin H fun v44_34 H => ?_
    refine VO_5 s_assign ?_
    refine VO_nil ?_
    exact kont_loop (H _ rfl rfl rfl rfl rfl rfl)
  · refine W_exit ?_
    refine kont_xs rfl ?_
    refine kont_xl rfl ?_
    refine kont_block ?_
    refine kont_seq ?_
    refine W_seq ?_
    refine W_seq ?_
    refine W_plain ?_
    refine VO_5 s_assign ?_
    refine VO_nil ?_
    refine kont_seq ?_
    refine W_block ?_
    exact H _ rfl rfl rfl rfl rfl rfl

theorem R9_3 {v1 v5 v10 v11 v12 v13 v14 v15 v16 : Value} {h : DH} {Z : Value → DH → Prop} (H : obP (lenStr v1) fun v90_35 => obP (ibin .lss v16 v90_35) fun v91_36 => obP (gotB v91_36 true) fun w37 => g1 w37 (lenS (sel w37 v5 undef)) fun v94_38 => g1 w37 (ibin .gtr v94_38 (Value.int .i64 0)) fun v95_39 => obP (pk v91_36 v95_39 (Value.bool false)) fun v96_40 => obP (asB v96_40) fun b41 => bP b41 (obP (ixStr v1 v16) fun v103_42 => obP (iaS 257 v5 v13) fun v104_43 => obP (fa 0 v104_43) fun v105_44 => obP (iaA 256 1 v105_44 v103_42) fun v106_45 => obP (ld1 h v106_45) fun v107_46 => obP (ibin .lss v107_46 (Value.int .i64 0)) fun v109_47 => obP (asB v109_47) fun b48 => bP b48 (A9_5 v10 v11 v12 v14 v15 h Z) (obP (iaS 257 v5 v107_46) fun v112_49 => obP (fa 256 v112_49) fun v113_50 => obP (ld1 h v113_50) fun v114_51 => obP (ibin .gtr v114_51 (Value.int .i64 0)) fun v115_52 => obP (asB v115_52) fun b53 => bP b53 (obP (iaS 257 v5 v107_46) fun v118_54 => obP (fa 256 v118_54) fun v119_55 => obP (ld1 h v119_55) fun v120_56 => obP (ibin .sub v120_56 (Value.int .i64 1)) fun v121_57 => obP (ibin .add v16 (Value.int .i64 1)) fun v123_58 => obP (ibin .add v16 (Value.int .i64 1)) fun v98_59 => A9_3 v1 v5 v10 v11 v12 v107_46 v121_57 v123_58 v98_59 h Z) (obP (ibin .add v16 (Value.int .i64 1)) fun v98_60 => A9_3 v1 v5 v10 v11 v12 v107_46 v14 v15 v98_60 h Z))) (A9_5 v10 v11 v12 v14 v15 h Z)) : A9_3 v1 v5 v10 v11 v12 v13 v14 v15 v16 h Z := by
  intro a e1 e5 e10 e11 e12 e13 e14 e15 e16
  subst e1 e5 e10 e11 e12 e13 e14 e15 e16
  refine W_loop ?_
  refine W_seq ?_
  refine W_seq ?_
  refine W_plain ?_
  refine VO_5 s_move ?_
  refine VO_5 s_move ?_
  refine VO_1 (s_lenStr ud9) H fun v90_35 H => ?_
  refine VO_1 s_ibin H fun v91_36 H => ?_
  refine VO_5 s_move ?_
  refine obP_elim H fun w37 ew37 H => ?_
  refine VO_5m rfl ew37 s_move ?_
  refine VO_1g rfl ew37 (s_lenS ud35) H fun v94_38 H => ?_
  refine VO_1g rfl ew37 s_ibin H fun v95_39 H => ?_
  refine VO_1 s_pk H fun v96_40 H => ?_
  refine VO_nil ?_
  refine kont_seq ?_
  refine obP_elim H fun b41 eb41 H => W_cond eb41 (bP_imp H (fun H => ?_) (fun H => ?_))
  · refine W_skip ?_
    refine kont_seq ?_
    refine W_seq ?_
    refine W_block ?_
    refine W_seq ?_
    refine W_draw dp9_26 ?_
    refine VO_5 s_move ?_
    refine VO_5 s_move ?_
    refine VO_5 s_move ?_
    refine VO_5 s_move ?_
    refine VO_1 (s_ixStr ts9) H fun v103_42 H => ?_
    refine VO_1 (s_iaS sl35 el35 sz41) H fun v104_43 H => ?_
    refine VO_1 (s_fa tf41_0 rfl) H fun v105_44 H => ?_
    refine VO_1 (s_iaA sl39 ar39 sz3) H fun v106_45 H => ?_
    refine VO_1 (s_load1 ag3) H fun v107_46 H => ?_
    refine VO_5 s_assign ?_
    refine VO_nil ?_
    refine kont_seq ?_
    refine W_seq ?_
    refine W_seq ?_
    refine W_plain ?_
    refine VO_5 s_move ?_
    refine VO_1 s_ibin H fun v109_47 H => ?_
    refine VO_nil ?_
    refine kont_seq ?_
    refine obP_elim H fun b48 eb48 H => W_cond eb48 (bP_imp H (fun H => ?_) (fun H => ?_))
    · refine W_exit ?_
      refine kont_xs rfl ?_
      refine kont_block ?_
      refine kont_xs rfl ?_
      refine kont_xl rfl ?_
      refine kont_block ?_
      exact kont_seq (H _ rfl rfl rfl rfl rfl)
    · refine W_skip ?_
      refine kont_seq ?_
      refine W_seq ?_
      refine W_plain ?_
      refine VO_5 s_move ?_
      refine VO_5 s_move ?_
      refine VO_1 (s_iaS sl35 el35 sz41) H fun v112_49 H => ?_
      refine VO_1 (s_fa tf41_1 rfl) H fun v113_50 H => ?_
      refine VO_1 (s_load1 ag3) H fun v114_51 H => ?_
      refine VO_1 s_ibin H fun v115_52 H => ?_
      refine VO_nil ?_
      refine kont_seq ?_
      refine obP_elim H fun b53 eb53 H => W_cond eb53 (bP_imp H (fun H => ?_) (fun H => ?_))
      · refine W_plain ?_
        refine VO_5 s_move ?_
        refine VO_5 s_move ?_
        refine VO_1 (s_iaS sl35 el35 sz41) H fun v118_54 H => ?_
        refine VO_1 (s_fa tf41_1 rfl) H fun v119_55 H => ?_
        refine VO_1 (s_load1 ag3) H fun v120_56 H => ?_
        refine VO_1 s_ibin H fun v121_57 H => ?_
        refine VO_5 s_move ?_
        refine VO_1 s_ibin H fun v123_58 H => ?_
        refine VO_5 s_assign ?_
        refine VO_5 s_assign ?_
        refine VO_nil ?_
        refine kont_block ?_
        refine kont_seq ?_
        refine W_plain ?_
        refine VO_5 s_move ?_
        refine VO_1 s_ibin H fun v98_59 H => ?_
        refine VO_5 s_assign ?_
        refine VO_nil ?_
        exact kont_loop (H _ rfl rfl rfl rfl rfl rfl rfl rfl rfl)
      · refine W_skip ?_
        refine kont_block ?_
        refine kont_seq ?_
        refine W_plain ?_
        refine VO_5 s_move ?_
        refine VO_1 s_ibin H fun v98_60 H => ?_
        refine VO_5 s_assign ?_
        refine VO_nil ?_
        exact kont_loop (H _ rfl rfl rfl rfl rfl rfl rfl rfl rfl)
  · refine W_exit ?_
    refine kont_xs rfl ?_
    refine kont_xl rfl ?_
    refine kont_block ?_
    exact kont_seq (H _ rfl rfl rfl rfl rfl)

theorem R9_4 {v0 v1 v5 v6 v7 v9 : Value} {h : DH} {Z : Value → DH → Prop} (H : obP (ibin .lss v9 (Value.int .i64 3)) fun v49_61 => obP (asB v49_61) fun b62 => bP b62 (obP (ibin .add (Value.int .i64 97) v9) fun v53_63 => obP (iaS 4 v0 v6) fun v57_64 => obP (iaA 4 1 v57_64 v9) fun v58_65 => obP (ld1 h v58_65) fun v59_66 => obP (idiv .rem v59_66 (Value.int .u8 6)) fun v60_67 => obP (cvI .i64 v60_67) fun v61_68 => obP (ibin .sub v61_68 (Value.int .i64 1)) fun v62_69 => obP (fa 0 v7) fun v63_70 => obP (iaA 256 1 v63_70 v53_63) fun v64_71 => obP (st 1 h v64_71 v62_69) fun h72 => obP (ibin .add (Value.int .i64 97) v9) fun v66_73 => obP (fa 0 v7) fun v67_74 => obP (iaA 256 1 v67_74 v66_73) fun v68_75 => obP (ld1 h72 v68_75) fun v69_76 => obP (lenS v0) fun v71_77 => obP (ibin .geq v69_76 v71_77) fun v72_78 => obP (asB v72_78) fun b79 => bP b79 (obP (ibin .add (Value.int .i64 97) v9) fun v74_80 => obP (fa 0 v7) fun v75_81 => obP (iaA 256 1 v75_81 v74_80) fun v76_82 => obP (st 1 h72 v76_82 (Value.int .i64 (-1))) fun h83 => obP (ibin .add v9 (Value.int .i64 1)) fun v51_84 => A9_4 v0 v1 v5 v6 v7 v51_84 h83 Z) (obP (ibin .add v9 (Value.int .i64 1)) fun v51_85 => A9_4 v0 v1 v5 v6 v7 v51_85 h72 Z)) (obP (ldN 257 h v7) fun v78_86 => oh (bldSl 41 257 1 (List.replicate 257 (Value.int .i64 0)) [((0, 257), v78_86)] h) fun v79_87 h88 => oh (appS 41 2056 257 h88 v5 v79_87) fun v80_89 h90 => obP (ibin .add v6 (Value.int .i64 1)) fun v32_91 => A9_1 v0 v1 v80_89 v32_91 h90 Z)) : A9_4 v0 v1 v5 v6 v7 v9 h Z := by
  intro a e0 e1 e5 e6 e7 e9
  subst e0 e1 e5 e6 e7 e9
  refine W_loop ?_
  refine W_seq ?_
  refine W_seq ?_
  refine W_plain ?_
  refine VO_5 s_move ?_
  refine VO_1 s_ibin H fun v49_61 H => ?_
  refine VO_nil ?_
  refine kont_seq ?_
  refine obP_elim H fun b62 eb62 H => W_cond eb62 (bP_imp H (fun H => ?_) (fun H => ?_))
  · refine W_skip ?_
    refine kont_seq ?_
    refine W_seq ?_
    refine W_block ?_
    refine W_seq ?_
    refine W_plain ?_
    refine VO_5 s_move ?_
    refine VO_1 s_ibin H fun v53_63 H => ?_
    refine VO_5 s_move ?_
    refine VO_5 s_move ?_
    refine VO_5 s_move ?_
    refine VO_1 (s_iaS sl47 el47 sz48) H fun v57_64 H => ?_
    refine VO_1 (s_iaA sl48 ar48 sz5) H fun v58_65 H => ?_
    refine VO_1 (s_load1 ag5) H fun v59_66 H => ?_
    refine VO_1 s_idiv H fun v60_67 H => ?_
    refine VO_1 (s_cvI cv5_3) H fun v61_68 H => ?_
    refine VO_1 s_ibin H fun v62_69 H => ?_
    refine VO_1 (s_fa tf41_0 rfl) H fun v63_70 H => ?_
    refine VO_1 (s_iaA sl39 ar39 sz3) H fun v64_71 H => ?_
    refine VO_3 (s_store sz3) H fun h72 H => ?_
    refine VO_nil ?_
    refine kont_seq ?_
    refine W_seq ?_
    refine W_plain ?_
    refine VO_5 s_move ?_
    refine VO_1 s_ibin H fun v66_73 H => ?_
    refine VO_1 (s_fa tf41_0 rfl) H fun v67_74 H => ?_
    refine VO_1 (s_iaA sl39 ar39 sz3) H fun v68_75 H => ?_
    refine VO_1 (s_load1 ag3) H fun v69_76 H => ?_
    refine VO_5 s_move ?_
    refine VO_1 (s_lenS ud47) H fun v71_77 H => ?_
    refine VO_1 s_ibin H fun v72_78 H => ?_
    refine VO_nil ?_
    refine kont_seq ?_
    refine obP_elim H fun b79 eb79 H => W_cond eb79 (bP_imp H (fun H => ?_) (fun H => ?_))
    · refine W_plain ?_
      refine VO_5 s_move ?_
      refine VO_1 s_ibin H fun v74_80 H => ?_
      refine VO_1 (s_fa tf41_0 rfl) H fun v75_81 H => ?_
      refine VO_1 (s_iaA sl39 ar39 sz3) H fun v76_82 H => ?_
      refine VO_3 (s_store sz3) H fun h83 H => ?_
      refine VO_nil ?_
      refine kont_block ?_
      refine kont_seq ?_
      refine W_plain ?_
      refine VO_5 s_move ?_
      refine VO_1 s_ibin H fun v51_84 H => ?_
      refine VO_5 s_assign ?_
      refine VO_nil ?_
      exact kont_loop (H _ rfl rfl rfl rfl rfl rfl)
    · refine W_skip ?_
      refine kont_block ?_
      refine kont_seq ?_
      refine W_plain ?_
      refine VO_5 s_move ?_
      refine VO_1 s_ibin H fun v51_85 H => ?_
      refine VO_5 s_assign ?_
      refine VO_nil ?_
      exact kont_loop (H _ rfl rfl rfl rfl rfl rfl)
  · refine W_exit ?_
    refine kont_xs rfl ?_
    refine kont_xl rfl ?_
    refine kont_block ?_
    refine kont_seq ?_
    refine W_plain ?_
    refine VO_5 s_move ?_
    refine VO_1 (s_loadN ag41 sz41) H fun v78_86 H => ?_
    refine VO_2 (s_bldSl el35 sz41 zr41 (fil_cons rfl fil_nil) (fil_top rfl)) H fun v79_87 h88 H => ?_
    refine VO_2 (s_app el35 ud35 sz41 by41 zr41) H fun v80_89 h90 H => ?_
    refine VO_5 s_assign ?_
    refine VO_nil ?_
    refine kont_block ?_
    refine kont_seq ?_
    refine W_plain ?_
    refine VO_5 s_move ?_
    refine VO_1 s_ibin H fun v32_91 H => ?_
    refine VO_5 s_assign ?_
    refine VO_nil ?_
    exact kont_loop (H _ rfl rfl rfl rfl)

theorem R9_5 {v10 v11 v12 v14 v15 : Value} {h : DH} {Z : Value → DH → Prop} (H : obP (ibin .gtr v15 (Value.int .i64 0)) fun v126_92 => obP (dbin Try.prog .eql 4 (.tmp 124) (.tmp 126) v12 v126_92) fun v127_93 => obP (gotB v127_93 true) fun w94 => g1 w94 (ibin .eql (sel w94 v11 undef) (sel w94 v15 undef)) fun v131_95 => obP (pk v127_93 v131_95 (Value.bool false)) fun v132_96 => obP (gotB v132_96 true) fun w97 => g1 w97 (bnot (sel w97 v12 undef)) fun v135_98 => obP (gotB (sel w97 v135_98 undef) false) fun w99 => g1 w99 (ibin .eql (sel w99 v10 undef) (sel w99 v14 undef)) fun v139_100 => g1 w97 (pk (sel w97 v135_98 undef) (Value.bool true) v139_100) fun v140_101 => obP (pk v132_96 v140_101 (Value.bool false)) fun v141_102 => Z v141_102 h) : A9_5 v10 v11 v12 v14 v15 h Z := by
  intro a e10 e11 e12 e14 e15
  subst e10 e11 e12 e14 e15
  refine W_seq ?_
  refine W_plain ?_
  refine VO_5 s_move ?_
  refine VO_5 s_move ?_
  refine VO_1 s_ibin H fun v126_92 H => ?_
  refine VO_1 s_gbin H fun v127_93 H => ?_
  refine VO_5 s_move ?_
  refine obP_elim H fun w94 ew94 H => ?_
  refine VO_5m rfl ew94 s_move ?_
  refine VO_5m rfl ew94 s_move ?_
  refine VO_1g rfl ew94 s_ibin H fun v131_95 H => ?_
  refine VO_1 s_pk H fun v132_96 H => ?_
  refine VO_5 s_move ?_
  refine obP_elim H fun w97 ew97 H => ?_
  refine VO_5m rfl ew97 s_move ?_
  refine VO_1g rfl ew97 s_not H fun v135_98 H => ?_
  refine VO_5m rfl ew97 s_move ?_
  refine obP_elim H fun w99 ew99 H => ?_
  refine VO_5m rfl ew99 s_move ?_
  refine VO_5m rfl ew99 s_move ?_
  refine VO_1g rfl ew99 s_ibin H fun v139_100 H => ?_
  refine VO_1g rfl ew97 s_pk H fun v140_101 H => ?_
  refine VO_1 s_pk H fun v141_102 H => ?_
  refine VO_5 s_assign ?_
  refine VO_nil ?_
  refine kont_seq ?_
  refine W_ret ?_
  exact ⟨rfl, obP_of (dres_mk (lm_cons rfl lm_nil)) H⟩

end Go.Det
end

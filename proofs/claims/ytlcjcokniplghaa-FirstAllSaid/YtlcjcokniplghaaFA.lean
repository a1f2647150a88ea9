/- PRINTED BY gen.py: the conditions of functions. -/
import Derived.Test.YtlcjcokniplghaaTT
set_option linter.unusedVariables false
set_option linter.unusedSimpArgs false
set_option maxRecDepth 100000
noncomputable section
namespace Go.Det
open Go.Proofs
-- (*lemmata/lemmataplay.Picks).Num
noncomputable def body45 : Code := Cd.bO Try.f45
theorem df45 : dfunc Try.prog 45 = some ⟨Try.f45, body45⟩ := by kernel_rfl
theorem dp45_1 : drawPairs (Cd.rO (Cd.sL (Cd.sL (Cd.sR body45)))) = some [] := by kernel_rfl
theorem dp45_4 : drawPairs (Cd.rO (Cd.sL (Cd.sR (Cd.sR (Cd.sR body45))))) = some [] := by kernel_rfl
theorem R45 {v0 v1 : Value} {h : DH} {Z : Value → DH → Prop} (H : obP (nilc v0) fun v6_1 => obP (fa 1 v6_1) fun v7_2 => obP (ld1 h v7_2) fun v8_3 => obP (nilc v0) fun v10_4 => obP (fa 0 v10_4) fun v11_5 => obP (ld1 h v11_5) fun v12_6 => obP (lenS v12_6) fun v13_7 => obP (ibin .geq v8_3 v13_7) fun v14_8 => obP (asB v14_8) fun b9 => bP b9 (Z (Value.int .i64 0) h) (obP (nilc v0) fun v16_10 => obP (fa 1 v16_10) fun v17_11 => obP (ld1 h v17_11) fun v18_12 => obP (ibin .add v18_12 (Value.int .i64 1)) fun v19_13 => obP (nilc v0) fun v20_14 => obP (fa 1 v20_14) fun v21_15 => obP (st 1 h v21_15 v19_13) fun h16 => obP (nilc v0) fun v23_17 => obP (fa 0 v23_17) fun v24_18 => obP (ld1 h16 v24_18) fun v25_19 => obP (nilc v0) fun v27_20 => obP (fa 1 v27_20) fun v28_21 => obP (ld1 h16 v28_21) fun v29_22 => obP (ibin .sub v29_22 (Value.int .i64 1)) fun v30_23 => obP (iaS 1 v25_19 v30_23) fun v31_24 => obP (ld1 h16 v31_24) fun v32_25 => obP (cvI .i64 v32_25) fun v33_26 => obP (idiv .rem v33_26 v1) fun v35_27 => Z v35_27 h16)) : CP Try.prog 45 [v0, v1] h Z := by
  refine CP_of df45 ?_
  refine W_seq ?_
  refine W_plain ?_
  refine VO_5 s_assign ?_
  refine VO_nil ?_
  refine kont_seq ?_
  refine W_seq ?_
  refine W_seq ?_
  refine W_draw dp45_1 ?_
  refine VO_5 s_move ?_
  refine VO_1 s_nilc H fun v6_1 H => ?_
  refine VO_1 (s_fa tf97_1 rfl) H fun v7_2 H => ?_
  refine VO_1 (s_load1 ag3) H fun v8_3 H => ?_
  refine VO_5 s_move ?_
  refine VO_1 s_nilc H fun v10_4 H => ?_
  refine VO_1 (s_fa tf97_0 rfl) H fun v11_5 H => ?_
  refine VO_1 (s_load1 ag22) H fun v12_6 H => ?_
  refine VO_1 (s_lenS ud22) H fun v13_7 H => ?_
  refine VO_1 s_ibin H fun v14_8 H => ?_
  refine VO_nil ?_
  refine kont_seq ?_
  refine obP_elim H fun b9 eb9 H => W_cond eb9 (bP_imp H (fun H => ?_) (fun H => ?_))
  · refine W_seq ?_
    refine W_plain ?_
    refine VO_5 s_assign ?_
    refine VO_nil ?_
    refine kont_seq ?_
    refine W_ret ?_
    refine kont_xs rfl ?_
    exact ⟨rfl, obP_of (dres_mk (lm_cons rfl lm_nil)) H⟩
  · refine W_skip ?_
    refine kont_seq ?_
    refine W_seq ?_
    refine W_plain ?_
    refine VO_5 s_move ?_
    refine VO_1 s_nilc H fun v16_10 H => ?_
    refine VO_1 (s_fa tf97_1 rfl) H fun v17_11 H => ?_
    refine VO_1 (s_load1 ag3) H fun v18_12 H => ?_
    refine VO_1 s_ibin H fun v19_13 H => ?_
    refine VO_1 s_nilc H fun v20_14 H => ?_
    refine VO_1 (s_fa tf97_1 rfl) H fun v21_15 H => ?_
    refine VO_3 (s_store sz3) H fun h16 H => ?_
    refine VO_nil ?_
    refine kont_seq ?_
    refine W_seq ?_
    refine W_draw dp45_4 ?_
    refine VO_5 s_move ?_
    refine VO_1 s_nilc H fun v23_17 H => ?_
    refine VO_1 (s_fa tf97_0 rfl) H fun v24_18 H => ?_
    refine VO_1 (s_load1 ag22) H fun v25_19 H => ?_
    refine VO_5 s_move ?_
    refine VO_1 s_nilc H fun v27_20 H => ?_
    refine VO_1 (s_fa tf97_1 rfl) H fun v28_21 H => ?_
    refine VO_1 (s_load1 ag3) H fun v29_22 H => ?_
    refine VO_1 s_ibin H fun v30_23 H => ?_
    refine VO_1 (s_iaS sl22 el22 sz5) H fun v31_24 H => ?_
    refine VO_1 (s_load1 ag5) H fun v32_25 H => ?_
    refine VO_1 (s_cvI cv5_3) H fun v33_26 H => ?_
    refine VO_5 s_move ?_
    refine VO_1 s_idiv H fun v35_27 H => ?_
    refine VO_5 s_assign ?_
    refine VO_nil ?_
    refine kont_seq ?_
    refine W_ret ?_
    exact ⟨rfl, obP_of (dres_mk (lm_cons rfl lm_nil)) H⟩

-- lemmata/lemmataplay.Made
noncomputable def body15 : Code := Cd.bO Try.f15
theorem df15 : dfunc Try.prog 15 = some ⟨Try.f15, body15⟩ := by kernel_rfl
theorem R15 {v0 : Value} {h : DH} {Z : Value → DH → Prop} (H : obP (bld [(Value.slice none 0 0), (Value.int .i64 0)] [((0, 1), v0)]) fun v4_1 => oh (bx 97 h v4_1) fun v5_2 h3 => Z v5_2 h3) : CP Try.prog 15 [v0] h Z := by
  refine CP_of df15 ?_
  refine W_seq ?_
  refine W_plain ?_
  refine VO_5 s_assign ?_
  refine VO_nil ?_
  refine kont_seq ?_
  refine W_seq ?_
  refine W_plain ?_
  refine VO_5 s_move ?_
  refine VO_1 (s_bld zc97 ud97 hs97 (fil_cons tf97_0 fil_nil) (fil_top rfl)) H fun v4_1 H => ?_
  refine VO_2 s_box H fun v5_2 h3 H => ?_
  refine VO_5 s_assign ?_
  refine VO_nil ?_
  refine kont_seq ?_
  refine W_ret ?_
  exact ⟨rfl, obP_of (dres_mk (lm_cons rfl lm_nil)) H⟩

-- (*lemmata/lemmataplay.Picks).Grammar
noncomputable def body16 : Code := Cd.bO Try.f16
theorem df16 : dfunc Try.prog 16 = some ⟨Try.f16, body16⟩ := by kernel_rfl
def A16_1 (v0 v2 v3 v4 : Value) (h : DH) (Z : Value → DH → Prop) : Prop := ∀ a : DA, DA.val a 0 = v0 → DA.val a 2 = v2 → DA.val a 3 = v3 → DA.val a 4 = v4 → W Try.prog (Cd.bB (Cd.sR (Cd.sL (Cd.sR (Cd.sR body16))))) a h (kont Try.prog [.block 0, .seq (Cd.sR (Cd.sR (Cd.sR body16)))] (Fin Try.prog Try.f16 Z))
def A16_2 (v0 v2 v3 v6 : Value) (h : DH) (Z : Value → DH → Prop) : Prop := ∀ a : DA, DA.val a 0 = v0 → DA.val a 2 = v2 → DA.val a 3 = v3 → DA.val a 6 = v6 → W Try.prog (Cd.bB (Cd.sR (Cd.sL (Cd.sR (Cd.sR (Cd.sR body16)))))) a h (kont Try.prog [.block 2, .seq (Cd.sR (Cd.sR (Cd.sR (Cd.sR body16))))] (Fin Try.prog Try.f16 Z))
def A16_3 (v0 v2 v3 v6 v7 : Value) (h : DH) (Z : Value → DH → Prop) : Prop := ∀ a : DA, DA.val a 0 = v0 → DA.val a 2 = v2 → DA.val a 3 = v3 → DA.val a 6 = v6 → DA.val a 7 = v7 → W Try.prog (Cd.sR (Cd.sR (Cd.bB (Cd.sL (Cd.sR (Cd.lB (Cd.bB (Cd.sR (Cd.sL (Cd.sR (Cd.sR (Cd.sR body16)))))))))))) a h (kont Try.prog [.block 3, .seq (Cd.sR (Cd.sR (Cd.lB (Cd.bB (Cd.sR (Cd.sL (Cd.sR (Cd.sR (Cd.sR body16))))))))), .loop (Cd.lB (Cd.bB (Cd.sR (Cd.sL (Cd.sR (Cd.sR (Cd.sR body16))))))), .block 2, .seq (Cd.sR (Cd.sR (Cd.sR (Cd.sR body16))))] (Fin Try.prog Try.f16 Z))
def A16_4 (v0 v2 v3 v8 : Value) (h : DH) (Z : Value → DH → Prop) : Prop := ∀ a : DA, DA.val a 0 = v0 → DA.val a 2 = v2 → DA.val a 3 = v3 → DA.val a 8 = v8 → W Try.prog (Cd.bB (Cd.sR (Cd.sL (Cd.sR (Cd.sR (Cd.sR (Cd.sR body16))))))) a h (kont Try.prog [.block 4, .seq (Cd.sR (Cd.sR (Cd.sR (Cd.sR (Cd.sR body16)))))] (Fin Try.prog Try.f16 Z))
def A16_5 (v0 v2 v3 v8 v9 v10 : Value) (h : DH) (Z : Value → DH → Prop) : Prop := ∀ a : DA, DA.val a 0 = v0 → DA.val a 2 = v2 → DA.val a 3 = v3 → DA.val a 8 = v8 → DA.val a 9 = v9 → DA.val a 10 = v10 → W Try.prog (Cd.bB (Cd.sR (Cd.sL (Cd.sR (Cd.bB (Cd.sL (Cd.sR (Cd.lB (Cd.bB (Cd.sR (Cd.sL (Cd.sR (Cd.sR (Cd.sR (Cd.sR body16))))))))))))))) a h (kont Try.prog [.block 6, .seq (Cd.sR (Cd.sR (Cd.bB (Cd.sL (Cd.sR (Cd.lB (Cd.bB (Cd.sR (Cd.sL (Cd.sR (Cd.sR (Cd.sR (Cd.sR body16))))))))))))), .block 5, .seq (Cd.sR (Cd.sR (Cd.lB (Cd.bB (Cd.sR (Cd.sL (Cd.sR (Cd.sR (Cd.sR (Cd.sR body16)))))))))), .loop (Cd.lB (Cd.bB (Cd.sR (Cd.sL (Cd.sR (Cd.sR (Cd.sR (Cd.sR body16)))))))), .block 4, .seq (Cd.sR (Cd.sR (Cd.sR (Cd.sR (Cd.sR body16)))))] (Fin Try.prog Try.f16 Z))
def A16_6 (v0 v2 v3 v8 v9 v10 v11 : Value) (h : DH) (Z : Value → DH → Prop) : Prop := ∀ a : DA, DA.val a 0 = v0 → DA.val a 2 = v2 → DA.val a 3 = v3 → DA.val a 8 = v8 → DA.val a 9 = v9 → DA.val a 10 = v10 → DA.val a 11 = v11 → W Try.prog (Cd.sR (Cd.sR (Cd.sR (Cd.bB (Cd.sL (Cd.sR (Cd.lB (Cd.bB (Cd.sR (Cd.sL (Cd.sR (Cd.bB (Cd.sL (Cd.sR (Cd.lB (Cd.bB (Cd.sR (Cd.sL (Cd.sR (Cd.sR (Cd.sR (Cd.sR body16)))))))))))))))))))))) a h (kont Try.prog [.block 7, .seq (Cd.sR (Cd.sR (Cd.lB (Cd.bB (Cd.sR (Cd.sL (Cd.sR (Cd.bB (Cd.sL (Cd.sR (Cd.lB (Cd.bB (Cd.sR (Cd.sL (Cd.sR (Cd.sR (Cd.sR (Cd.sR body16)))))))))))))))))), .loop (Cd.lB (Cd.bB (Cd.sR (Cd.sL (Cd.sR (Cd.bB (Cd.sL (Cd.sR (Cd.lB (Cd.bB (Cd.sR (Cd.sL (Cd.sR (Cd.sR (Cd.sR (Cd.sR body16)))))))))))))))), .block 6, .seq (Cd.sR (Cd.sR (Cd.bB (Cd.sL (Cd.sR (Cd.lB (Cd.bB (Cd.sR (Cd.sL (Cd.sR (Cd.sR (Cd.sR (Cd.sR body16))))))))))))), .block 5, .seq (Cd.sR (Cd.sR (Cd.lB (Cd.bB (Cd.sR (Cd.sL (Cd.sR (Cd.sR (Cd.sR (Cd.sR body16)))))))))), .loop (Cd.lB (Cd.bB (Cd.sR (Cd.sL (Cd.sR (Cd.sR (Cd.sR (Cd.sR body16)))))))), .block 4, .seq (Cd.sR (Cd.sR (Cd.sR (Cd.sR (Cd.sR body16)))))] (Fin Try.prog Try.f16 Z))
theorem R16 {v0 : Value} {h : DH} {Z : Value → DH → Prop} (H : oh (al 28 [(Value.slice none 0 0), (Value.slice none 0 0), (Value.slice none 0 0)] h) fun v2_1 h2 => obP (bld [(Value.slice none 0 0), (Value.slice none 0 0), (Value.slice none 0 0)] []) fun v12_3 => oh (al 28 [(Value.slice none 0 0), (Value.slice none 0 0), (Value.slice none 0 0)] h2) fun v3_4 h5 => obP (st 3 h5 v3_4 v12_3) fun h6 => CP Try.prog 45 [v0, (Value.int .i64 3)] h6 fun v14_7 h8 => obP (ibin .add v14_7 (Value.int .i64 1)) fun v15_9 => A16_1 v0 v2_1 v3_4 v15_9 h8 Z) : CP Try.prog 16 [v0] h Z := by
  refine CP_of df16 ?_
  refine W_seq ?_
  refine W_plain ?_
  refine VO_2 (s_al zc28) H fun v2_1 h2 H => ?_
  refine VO_nil ?_
  refine kont_seq ?_
  refine W_seq ?_
  refine W_plain ?_
  refine VO_1 (s_bld zc28 ud28 hs28 fil_nil rfl) H fun v12_3 H => ?_
  refine VO_2 (s_al zc28) H fun v3_4 h5 H => ?_
  refine VO_3 (s_store sz28) H fun h6 H => ?_
  refine VO_nil ?_
  refine kont_seq ?_
  refine W_seq ?_
  refine W_seq ?_
  refine W_plain ?_
  refine VO_5 s_move ?_
  refine VO_4 rfl H fun v14_7 h8 H => ?_
  refine VO_1 s_ibin H fun v15_9 H => ?_
  refine VO_5 s_assign ?_
  refine VO_nil ?_
  refine kont_seq ?_
  refine W_block ?_
  exact H _ rfl rfl rfl rfl

theorem R16_1 {v0 v2 v3 v4 : Value} {h : DH} {Z : Value → DH → Prop} (H : obP (ibin .gtr v4 (Value.int .i64 0)) fun v17_10 => obP (asB v17_10) fun b11 => bP b11 (obP (fa 0 v3) fun v20_12 => obP (ld1 h v20_12) fun v21_13 => obP (lenS v21_13) fun v22_14 => obP (ibin .add (Value.int .i64 97) v22_14) fun v23_15 => obP (cvI .u8 v23_15) fun v24_16 => oh (bldSl 5 1 1 [(Value.int .u8 0)] [((0, 1), v24_16)] h) fun v25_17 h18 => obP (cvB h18 v25_17) fun v26_19 => obP (fa 0 v3) fun v27_20 => obP (ld1 h18 v27_20) fun v28_21 => obP (sbin .add (Value.string ⟨#[116]⟩) v26_19) fun v30_22 => obP (bld [(Value.string ⟨#[]⟩), (Value.string ⟨#[]⟩), (Value.bool false)] [((0, 1), v30_22), ((1, 1), v26_19)]) fun v32_23 => oh (bldSl 99 3 1 [(Value.string ⟨#[]⟩), (Value.string ⟨#[]⟩), (Value.bool false)] [((0, 3), v32_23)] h18) fun v33_24 h25 => oh (appS 99 40 3 h25 v28_21 v33_24) fun v34_26 h27 => obP (fa 0 v3) fun v35_28 => obP (st 1 h27 v35_28 v34_26) fun h29 => obP (ibin .sub v4 (Value.int .i64 1)) fun v19_30 => A16_1 v0 v2 v3 v19_30 h29 Z) (CP Try.prog 45 [v0, (Value.int .i64 4)] h fun v37_31 h32 => obP (ibin .add v37_31 (Value.int .i64 1)) fun v38_33 => A16_2 v0 v2 v3 v38_33 h32 Z)) : A16_1 v0 v2 v3 v4 h Z := by
  intro a e0 e2 e3 e4
  subst e0 e2 e3 e4
  refine W_loop ?_
  refine W_seq ?_
  refine W_seq ?_
  refine W_plain ?_
  refine VO_5 s_move ?_
  refine VO_1 s_ibin H fun v17_10 H => ?_
  refine VO_nil ?_
  refine kont_seq ?_
  refine obP_elim H fun b11 eb11 H => W_cond eb11 (bP_imp H (fun H => ?_) (fun H => ?_))
  · refine W_skip ?_
    refine kont_seq ?_
    refine W_seq ?_
    refine W_block ?_
    refine W_seq ?_
    refine W_plain ?_
    refine VO_1 (s_fa tf28_0 rfl) H fun v20_12 H => ?_
    refine VO_1 (s_load1 ag24) H fun v21_13 H => ?_
    refine VO_1 (s_lenS ud24) H fun v22_14 H => ?_
    refine VO_1 s_ibin H fun v23_15 H => ?_
    refine VO_1 (s_cvI cv3_5) H fun v24_16 H => ?_
    refine VO_2 (s_bldSl el22 sz5 zr5 (fil_cons rfl fil_nil) (fil_top rfl)) H fun v25_17 h18 H => ?_
    refine VO_1 (s_cvB el22 tu5 ts9) H fun v26_19 H => ?_
    refine VO_5 s_assign ?_
    refine VO_nil ?_
    refine kont_seq ?_
    refine W_plain ?_
    refine VO_1 (s_fa tf28_0 rfl) H fun v27_20 H => ?_
    refine VO_1 (s_load1 ag24) H fun v28_21 H => ?_
    refine VO_5 s_move ?_
    refine VO_1 s_sbin H fun v30_22 H => ?_
    refine VO_5 s_move ?_
    refine VO_1 (s_bld zc99 ud99 hs99 (fil_cons tf99_0 (fil_cons tf99_1 fil_nil)) (fil_top (fil_top rfl))) H fun v32_23 H => ?_
    refine VO_2 (s_bldSl el24 sz99 zr99 (fil_cons rfl fil_nil) (fil_top rfl)) H fun v33_24 h25 H => ?_
    refine VO_2 (s_app el24 ud24 sz99 by99 zr99) H fun v34_26 h27 H => ?_
    refine VO_1 (s_fa tf28_0 rfl) H fun v35_28 H => ?_
    refine VO_3 (s_store sz24) H fun h29 H => ?_
    refine VO_nil ?_
    refine kont_block ?_
    refine kont_seq ?_
    refine W_plain ?_
    refine VO_5 s_move ?_
    refine VO_1 s_ibin H fun v19_30 H => ?_
    refine VO_5 s_assign ?_
    refine VO_nil ?_
    exact kont_loop (H _ rfl rfl rfl rfl)
  · refine W_exit ?_
    refine kont_xs rfl ?_
    refine kont_xl rfl ?_
    refine kont_block ?_
    refine kont_seq ?_
    refine W_seq ?_
    refine W_seq ?_
    refine W_plain ?_
    refine VO_5 s_move ?_
    refine VO_4 rfl H fun v37_31 h32 H => ?_
    refine VO_1 s_ibin H fun v38_33 H => ?_
    refine VO_5 s_assign ?_
    refine VO_nil ?_
    refine kont_seq ?_
    refine W_block ?_
    exact H _ rfl rfl rfl rfl

theorem R16_2 {v0 v2 v3 v6 : Value} {h : DH} {Z : Value → DH → Prop} (H : obP (ibin .gtr v6 (Value.int .i64 0)) fun v40_34 => obP (asB v40_34) fun b35 => bP b35 (obP (fa 1 v3) fun v43_36 => obP (ld1 h v43_36) fun v44_37 => obP (lenS v44_37) fun v45_38 => obP (ibin .add (Value.int .i64 97) v45_38) fun v46_39 => obP (cvI .u8 v46_39) fun v47_40 => oh (bldSl 5 1 1 [(Value.int .u8 0)] [((0, 1), v47_40)] h) fun v48_41 h42 => obP (cvB h42 v48_41) fun v49_43 => obP (sbin .add (Value.string ⟨#[110]⟩) v49_43) fun v50_44 => obP (bld [(Value.string ⟨#[]⟩), (Value.slice none 0 0), (Value.slice none 0 0)] [((0, 1), v50_44)]) fun v51_45 => oh (al 101 [(Value.string ⟨#[]⟩), (Value.slice none 0 0), (Value.slice none 0 0)] h42) fun v7_46 h47 => obP (st 3 h47 v7_46 v51_45) fun h48 => obP (fa 1 v3) fun v52_49 => obP (ld1 h48 v52_49) fun v53_50 => obP (lenS v53_50) fun v54_51 => obP (ibin .gtr v54_51 (Value.int .i64 0)) fun v55_52 => obP (asB v55_52) fun b53 => bP b53 (oh (bldSl 9 1 2 [(Value.string ⟨#[]⟩)] [((0, 1), (Value.string ⟨#[105]⟩)), ((1, 1), (Value.string ⟨#[106]⟩))] h48) fun v56_54 h55 => CP Try.prog 45 [v0, (Value.int .i64 3)] h55 fun v58_56 h57 => obP (slS 9 1 h57 v56_54 none (some v58_56)) fun v59_58 => obP (fa 1 v7_46) fun v60_59 => obP (st 1 h57 v60_59 v59_58) fun h60 => A16_3 v0 v2 v3 v6 v7_46 h60 Z) (A16_3 v0 v2 v3 v6 v7_46 h48 Z)) (CP Try.prog 45 [v0, (Value.int .i64 7)] h fun v73_61 h62 => obP (ibin .add v73_61 (Value.int .i64 1)) fun v74_63 => A16_4 v0 v2 v3 v74_63 h62 Z)) : A16_2 v0 v2 v3 v6 h Z := by
  intro a e0 e2 e3 e6
  subst e0 e2 e3 e6
  refine W_loop ?_
  refine W_seq ?_
  refine W_seq ?_
  refine W_plain ?_
  refine VO_5 s_move ?_
  refine VO_1 s_ibin H fun v40_34 H => ?_
  refine VO_nil ?_
  refine kont_seq ?_
  refine obP_elim H fun b35 eb35 H => W_cond eb35 (bP_imp H (fun H => ?_) (fun H => ?_))
  · refine W_skip ?_
    refine kont_seq ?_
    refine W_seq ?_
    refine W_block ?_
    refine W_seq ?_
    refine W_plain ?_
    refine VO_1 (s_fa tf28_1 rfl) H fun v43_36 H => ?_
    refine VO_1 (s_load1 ag25) H fun v44_37 H => ?_
    refine VO_1 (s_lenS ud25) H fun v45_38 H => ?_
    refine VO_1 s_ibin H fun v46_39 H => ?_
    refine VO_1 (s_cvI cv3_5) H fun v47_40 H => ?_
    refine VO_2 (s_bldSl el22 sz5 zr5 (fil_cons rfl fil_nil) (fil_top rfl)) H fun v48_41 h42 H => ?_
    refine VO_1 (s_cvB el22 tu5 ts9) H fun v49_43 H => ?_
    refine VO_1 s_sbin H fun v50_44 H => ?_
    refine VO_1 (s_bld zc101 ud101 hs101 (fil_cons tf101_0 fil_nil) (fil_top rfl)) H fun v51_45 H => ?_
    refine VO_2 (s_al zc101) H fun v7_46 h47 H => ?_
    refine VO_3 (s_store sz101) H fun h48 H => ?_
    refine VO_nil ?_
    refine kont_seq ?_
    refine W_seq ?_
    refine W_seq ?_
    refine W_plain ?_
    refine VO_1 (s_fa tf28_1 rfl) H fun v52_49 H => ?_
    refine VO_1 (s_load1 ag25) H fun v53_50 H => ?_
    refine VO_1 (s_lenS ud25) H fun v54_51 H => ?_
    refine VO_1 s_ibin H fun v55_52 H => ?_
    refine VO_nil ?_
    refine kont_seq ?_
    refine obP_elim H fun b53 eb53 H => W_cond eb53 (bP_imp H (fun H => ?_) (fun H => ?_))
    · refine W_plain ?_
      refine VO_2 (s_bldSl el56 sz9 zr9 (fil_cons rfl (fil_cons rfl fil_nil)) (fil_top (fil_top rfl))) H fun v56_54 h55 H => ?_
      refine VO_5 s_move ?_
      refine VO_4 rfl H fun v58_56 h57 H => ?_
      refine VO_1 (s_slS ts56 el56 sz9) H fun v59_58 H => ?_
      refine VO_1 (s_fa tf101_1 rfl) H fun v60_59 H => ?_
      refine VO_3 (s_store sz56) H fun h60 H => ?_
      refine VO_nil ?_
      exact kont_seq (H _ rfl rfl rfl rfl rfl)
    · refine W_skip ?_
      exact kont_seq (H _ rfl rfl rfl rfl rfl)
  · refine W_exit ?_
    refine kont_xs rfl ?_
    refine kont_xl rfl ?_
    refine kont_block ?_
    refine kont_seq ?_
    refine W_seq ?_
    refine W_seq ?_
    refine W_plain ?_
    refine VO_5 s_move ?_
    refine VO_4 rfl H fun v73_61 h62 H => ?_
    refine VO_1 s_ibin H fun v74_63 H => ?_
    refine VO_5 s_assign ?_
    refine VO_nil ?_
    refine kont_seq ?_
    refine W_block ?_
    exact H _ rfl rfl rfl rfl

theorem R16_3 {v0 v2 v3 v6 v7 : Value} {h : DH} {Z : Value → DH → Prop} (H : oh (bldSl 9 1 2 [(Value.string ⟨#[]⟩)] [((0, 1), (Value.string ⟨#[115]⟩)), ((1, 1), (Value.string ⟨#[117]⟩))] h) fun v61_64 h65 => CP Try.prog 45 [v0, (Value.int .i64 3)] h65 fun v63_66 h67 => obP (slS 9 1 h67 v61_64 none (some v63_66)) fun v64_68 => obP (fa 2 v7) fun v65_69 => obP (st 1 h67 v65_69 v64_68) fun h70 => obP (fa 1 v3) fun v66_71 => obP (ld1 h70 v66_71) fun v67_72 => obP (ldN 3 h70 v7) fun v68_73 => oh (bldSl 101 3 1 [(Value.string ⟨#[]⟩), (Value.slice none 0 0), (Value.slice none 0 0)] [((0, 3), v68_73)] h70) fun v69_74 h75 => oh (appS 101 64 3 h75 v67_72 v69_74) fun v70_76 h77 => obP (fa 1 v3) fun v71_78 => obP (st 1 h77 v71_78 v70_76) fun h79 => obP (ibin .sub v6 (Value.int .i64 1)) fun v42_80 => A16_2 v0 v2 v3 v42_80 h79 Z) : A16_3 v0 v2 v3 v6 v7 h Z := by
  intro a e0 e2 e3 e6 e7
  subst e0 e2 e3 e6 e7
  refine W_seq ?_
  refine W_plain ?_
  refine VO_2 (s_bldSl el56 sz9 zr9 (fil_cons rfl (fil_cons rfl fil_nil)) (fil_top (fil_top rfl))) H fun v61_64 h65 H => ?_
  refine VO_5 s_move ?_
  refine VO_4 rfl H fun v63_66 h67 H => ?_
  refine VO_1 (s_slS ts56 el56 sz9) H fun v64_68 H => ?_
  refine VO_1 (s_fa tf101_2 rfl) H fun v65_69 H => ?_
  refine VO_3 (s_store sz56) H fun h70 H => ?_
  refine VO_nil ?_
  refine kont_seq ?_
  refine W_plain ?_
  refine VO_1 (s_fa tf28_1 rfl) H fun v66_71 H => ?_
  refine VO_1 (s_load1 ag25) H fun v67_72 H => ?_
  refine VO_1 (s_loadN ag101 sz101) H fun v68_73 H => ?_
  refine VO_2 (s_bldSl el25 sz101 zr101 (fil_cons rfl fil_nil) (fil_top rfl)) H fun v69_74 h75 H => ?_
  refine VO_2 (s_app el25 ud25 sz101 by101 zr101) H fun v70_76 h77 H => ?_
  refine VO_1 (s_fa tf28_1 rfl) H fun v71_78 H => ?_
  refine VO_3 (s_store sz25) H fun h79 H => ?_
  refine VO_nil ?_
  refine kont_block ?_
  refine kont_seq ?_
  refine W_plain ?_
  refine VO_5 s_move ?_
  refine VO_1 s_ibin H fun v42_80 H => ?_
  refine VO_5 s_assign ?_
  refine VO_nil ?_
  exact kont_loop (H _ rfl rfl rfl rfl)

theorem R16_4 {v0 v2 v3 v8 : Value} {h : DH} {Z : Value → DH → Prop} (H : obP (ibin .gtr v8 (Value.int .i64 0)) fun v76_81 => obP (asB v76_81) fun b82 => bP b82 (obP (fa 1 v3) fun v80_83 => obP (ld1 h v80_83) fun v81_84 => obP (lenS v81_84) fun v82_85 => CP Try.prog 45 [v0, v82_85] h fun v83_86 h87 => obP (bld [(Value.int .i64 0), (Value.slice none 0 0), (Value.slice none 0 0)] [((0, 1), v83_86)]) fun v84_88 => oh (al 37 [(Value.int .i64 0), (Value.slice none 0 0), (Value.slice none 0 0)] h87) fun v9_89 h90 => obP (st 3 h90 v9_89 v84_88) fun h91 => CP Try.prog 45 [v0, (Value.int .i64 4)] h91 fun v86_92 h93 => A16_5 v0 v2 v3 v8 v9_89 v86_92 h93 Z) (obP (ldN 3 h v3) fun v126_94 => obP (st 3 h v2 v126_94) fun h95 => obP (ldN 3 h95 v2) fun r96 => Z r96 h95)) : A16_4 v0 v2 v3 v8 h Z := by
  intro a e0 e2 e3 e8
  subst e0 e2 e3 e8
  refine W_loop ?_
  refine W_seq ?_
  refine W_seq ?_
  refine W_plain ?_
  refine VO_5 s_move ?_
  refine VO_1 s_ibin H fun v76_81 H => ?_
  refine VO_nil ?_
  refine kont_seq ?_
  refine obP_elim H fun b82 eb82 H => W_cond eb82 (bP_imp H (fun H => ?_) (fun H => ?_))
  · refine W_skip ?_
    refine kont_seq ?_
    refine W_seq ?_
    refine W_block ?_
    refine W_seq ?_
    refine W_plain ?_
    refine VO_5 s_move ?_
    refine VO_1 (s_fa tf28_1 rfl) H fun v80_83 H => ?_
    refine VO_1 (s_load1 ag25) H fun v81_84 H => ?_
    refine VO_1 (s_lenS ud25) H fun v82_85 H => ?_
    refine VO_4 rfl H fun v83_86 h87 H => ?_
    refine VO_1 (s_bld zc37 ud37 hs37 (fil_cons tf37_0 fil_nil) (fil_top rfl)) H fun v84_88 H => ?_
    refine VO_2 (s_al zc37) H fun v9_89 h90 H => ?_
    refine VO_3 (s_store sz37) H fun h91 H => ?_
    refine VO_nil ?_
    refine kont_seq ?_
    refine W_seq ?_
    refine W_seq ?_
    refine W_plain ?_
    refine VO_5 s_move ?_
    refine VO_4 rfl H fun v86_92 h93 H => ?_
    refine VO_5 s_assign ?_
    refine VO_nil ?_
    refine kont_seq ?_
    refine W_block ?_
    exact H _ rfl rfl rfl rfl rfl rfl
  · refine W_exit ?_
    refine kont_xs rfl ?_
    refine kont_xl rfl ?_
    refine kont_block ?_
    refine kont_seq ?_
    refine W_seq ?_
    refine W_plain ?_
    refine VO_1 (s_loadN ag28 sz28) H fun v126_94 H => ?_
    refine VO_3 (s_store sz28) H fun h95 H => ?_
    refine VO_nil ?_
    refine kont_seq ?_
    refine W_ret ?_
    refine obP_elim H fun r96 er96 H => ?_
    exact ⟨rfl, obP_of (dres_mk (lm_cons ((dload_N ag28 sz28).trans er96) lm_nil)) H⟩

theorem R16_5 {v0 v2 v3 v8 v9 v10 : Value} {h : DH} {Z : Value → DH → Prop} (H : obP (ibin .gtr v10 (Value.int .i64 0)) fun v88_97 => obP (asB v88_97) fun b98 => bP b98 (CP Try.prog 45 [v0, (Value.int .i64 5)] h fun v92_99 h100 => obP (ibin .lss v92_99 (Value.int .i64 3)) fun v93_101 => obP (bld [(Value.bool false), (Value.int .i64 0)] [((0, 1), v93_101)]) fun v94_102 => oh (al 90 [(Value.bool false), (Value.int .i64 0)] h100) fun v11_103 h104 => obP (st 2 h104 v11_103 v94_102) fun h105 => obP (fa 1 v3) fun v96_106 => obP (ld1 h105 v96_106) fun v97_107 => obP (lenS v97_107) fun v98_108 => CP Try.prog 45 [v0, v98_108] h105 fun v99_109 h110 => obP (fa 1 v11_103) fun v100_111 => obP (st 1 h110 v100_111 v99_109) fun h112 => obP (fa 0 v11_103) fun v101_113 => obP (ld1 h112 v101_113) fun v102_114 => obP (asB v102_114) fun b115 => bP b115 (obP (fa 0 v3) fun v104_116 => obP (ld1 h112 v104_116) fun v105_117 => obP (lenS v105_117) fun v106_118 => CP Try.prog 45 [v0, v106_118] h112 fun v107_119 h120 => obP (fa 1 v11_103) fun v108_121 => obP (st 1 h120 v108_121 v107_119) fun h122 => A16_6 v0 v2 v3 v8 v9 v10 v11_103 h122 Z) (A16_6 v0 v2 v3 v8 v9 v10 v11_103 h112 Z)) (obP (ldN 3 h v3) fun v116_123 => obP (ldN 3 h v9) fun v117_124 => CP Try.prog 51 [v0, v116_123, v117_124] h fun v118_125 h126 => obP (fa 2 v9) fun v119_127 => obP (st 1 h126 v119_127 v118_125) fun h128 => obP (fa 2 v3) fun v120_129 => obP (ld1 h128 v120_129) fun v121_130 => obP (ldN 3 h128 v9) fun v122_131 => oh (bldSl 37 3 1 [(Value.int .i64 0), (Value.slice none 0 0), (Value.slice none 0 0)] [((0, 3), v122_131)] h128) fun v123_132 h133 => oh (appS 37 56 3 h133 v121_130 v123_132) fun v124_134 h135 => obP (fa 2 v3) fun v125_136 => obP (st 1 h135 v125_136 v124_134) fun h137 => obP (ibin .sub v8 (Value.int .i64 1)) fun v78_138 => A16_4 v0 v2 v3 v78_138 h137 Z)) : A16_5 v0 v2 v3 v8 v9 v10 h Z := by
  intro a e0 e2 e3 e8 e9 e10
  subst e0 e2 e3 e8 e9 e10
  refine W_loop ?_
  refine W_seq ?_
  refine W_seq ?_
  refine W_plain ?_
  refine VO_5 s_move ?_
  refine VO_1 s_ibin H fun v88_97 H => ?_
  refine VO_nil ?_
  refine kont_seq ?_
  refine obP_elim H fun b98 eb98 H => W_cond eb98 (bP_imp H (fun H => ?_) (fun H => ?_))
  · refine W_skip ?_
    refine kont_seq ?_
    refine W_seq ?_
    refine W_block ?_
    refine W_seq ?_
    refine W_plain ?_
    refine VO_5 s_move ?_
    refine VO_4 rfl H fun v92_99 h100 H => ?_
    refine VO_1 s_ibin H fun v93_101 H => ?_
    refine VO_1 (s_bld zc90 ud90 hs90 (fil_cons tf90_0 fil_nil) (fil_top rfl)) H fun v94_102 H => ?_
    refine VO_2 (s_al zc90) H fun v11_103 h104 H => ?_
    refine VO_3 (s_store sz90) H fun h105 H => ?_
    refine VO_nil ?_
    refine kont_seq ?_
    refine W_seq ?_
    refine W_plain ?_
    refine VO_5 s_move ?_
    refine VO_1 (s_fa tf28_1 rfl) H fun v96_106 H => ?_
    refine VO_1 (s_load1 ag25) H fun v97_107 H => ?_
    refine VO_1 (s_lenS ud25) H fun v98_108 H => ?_
    refine VO_4 rfl H fun v99_109 h110 H => ?_
    refine VO_1 (s_fa tf90_1 rfl) H fun v100_111 H => ?_
    refine VO_3 (s_store sz3) H fun h112 H => ?_
    refine VO_nil ?_
    refine kont_seq ?_
    refine W_seq ?_
    refine W_seq ?_
    refine W_plain ?_
    refine VO_1 (s_fa tf90_0 rfl) H fun v101_113 H => ?_
    refine VO_1 (s_load1 ag4) H fun v102_114 H => ?_
    refine VO_nil ?_
    refine kont_seq ?_
    refine obP_elim H fun b115 eb115 H => W_cond eb115 (bP_imp H (fun H => ?_) (fun H => ?_))
    · refine W_plain ?_
      refine VO_5 s_move ?_
      refine VO_1 (s_fa tf28_0 rfl) H fun v104_116 H => ?_
      refine VO_1 (s_load1 ag24) H fun v105_117 H => ?_
      refine VO_1 (s_lenS ud24) H fun v106_118 H => ?_
      refine VO_4 rfl H fun v107_119 h120 H => ?_
      refine VO_1 (s_fa tf90_1 rfl) H fun v108_121 H => ?_
      refine VO_3 (s_store sz3) H fun h122 H => ?_
      refine VO_nil ?_
      exact kont_seq (H _ rfl rfl rfl rfl rfl rfl rfl)
    · refine W_skip ?_
      exact kont_seq (H _ rfl rfl rfl rfl rfl rfl rfl)
  · refine W_exit ?_
    refine kont_xs rfl ?_
    refine kont_xl rfl ?_
    refine kont_block ?_
    refine kont_seq ?_
    refine W_seq ?_
    refine W_plain ?_
    refine VO_5 s_move ?_
    refine VO_1 (s_loadN ag28 sz28) H fun v116_123 H => ?_
    refine VO_1 (s_loadN ag37 sz37) H fun v117_124 H => ?_
    refine VO_4 rfl H fun v118_125 h126 H => ?_
    refine VO_1 (s_fa tf37_2 rfl) H fun v119_127 H => ?_
    refine VO_3 (s_store sz35) H fun h128 H => ?_
    refine VO_nil ?_
    refine kont_seq ?_
    refine W_plain ?_
    refine VO_1 (s_fa tf28_2 rfl) H fun v120_129 H => ?_
    refine VO_1 (s_load1 ag26) H fun v121_130 H => ?_
    refine VO_1 (s_loadN ag37 sz37) H fun v122_131 H => ?_
    refine VO_2 (s_bldSl el26 sz37 zr37 (fil_cons rfl fil_nil) (fil_top rfl)) H fun v123_132 h133 H => ?_
    refine VO_2 (s_app el26 ud26 sz37 by37 zr37) H fun v124_134 h135 H => ?_
    refine VO_1 (s_fa tf28_2 rfl) H fun v125_136 H => ?_
    refine VO_3 (s_store sz26) H fun h137 H => ?_
    refine VO_nil ?_
    refine kont_block ?_
    refine kont_seq ?_
    refine W_plain ?_
    refine VO_5 s_move ?_
    refine VO_1 s_ibin H fun v78_138 H => ?_
    refine VO_5 s_assign ?_
    refine VO_nil ?_
    exact kont_loop (H _ rfl rfl rfl rfl)

theorem R16_6 {v0 v2 v3 v8 v9 v10 v11 : Value} {h : DH} {Z : Value → DH → Prop} (H : obP (fa 1 v9) fun v109_139 => obP (ld1 h v109_139) fun v110_140 => obP (ldN 2 h v11) fun v111_141 => oh (bldSl 90 2 1 [(Value.bool false), (Value.int .i64 0)] [((0, 2), v111_141)] h) fun v112_142 h143 => oh (appS 90 16 2 h143 v110_140 v112_142) fun v113_144 h145 => obP (fa 1 v9) fun v114_146 => obP (st 1 h145 v114_146 v113_144) fun h147 => obP (ibin .sub v10 (Value.int .i64 1)) fun v90_148 => A16_5 v0 v2 v3 v8 v9 v90_148 h147 Z) : A16_6 v0 v2 v3 v8 v9 v10 v11 h Z := by
  intro a e0 e2 e3 e8 e9 e10 e11
  subst e0 e2 e3 e8 e9 e10 e11
  refine W_plain ?_
  refine VO_1 (s_fa tf37_1 rfl) H fun v109_139 H => ?_
  refine VO_1 (s_load1 ag34) H fun v110_140 H => ?_
  refine VO_1 (s_loadN ag90 sz90) H fun v111_141 H => ?_
  refine VO_2 (s_bldSl el34 sz90 zr90 (fil_cons rfl fil_nil) (fil_top rfl)) H fun v112_142 h143 H => ?_
  refine VO_2 (s_app el34 ud34 sz90 by90 zr90) H fun v113_144 h145 H => ?_
  refine VO_1 (s_fa tf37_1 rfl) H fun v114_146 H => ?_
  refine VO_3 (s_store sz34) H fun h147 H => ?_
  refine VO_nil ?_
  refine kont_block ?_
  refine kont_seq ?_
  refine W_plain ?_
  refine VO_5 s_move ?_
  refine VO_1 s_ibin H fun v90_148 H => ?_
  refine VO_5 s_assign ?_
  refine VO_nil ?_
  exact kont_loop (H _ rfl rfl rfl rfl rfl rfl)

-- (*lemmata/lemmataplay.Picks).rules
noncomputable def body51 : Code := Cd.bO Try.f51
theorem df51 : dfunc Try.prog 51 = some ⟨Try.f51, body51⟩ := by kernel_rfl
theorem dp51_24 : drawPairs (Cd.rO (Cd.bB (Cd.sL (Cd.sR (Cd.lB (Cd.bB (Cd.sR (Cd.sL (Cd.sR (Cd.bB (Cd.sL (Cd.sR (Cd.lB (Cd.bB (Cd.sR (Cd.sL (Cd.sR (Cd.sR (Cd.sR (Cd.sR body51)))))))))))))))))))) = some [(2, 5), (2, 9), (4, 10), (5, 10)] := by kernel_rfl
def A51_1 (v0 v4 v5 v7 v8 v9 : Value) (h : DH) (Z : Value → DH → Prop) : Prop := ∀ a : DA, DA.val a 0 = v0 → DA.val a 4 = v4 → DA.val a 5 = v5 → DA.val a 7 = v7 → DA.val a 8 = v8 → DA.val a 9 = v9 → W Try.prog (Cd.bB (Cd.sR (Cd.sL (Cd.sR (Cd.sR (Cd.sR body51)))))) a h (kont Try.prog [.block 0, .seq (Cd.sR (Cd.sR (Cd.sR (Cd.sR body51))))] (Fin Try.prog Try.f51 Z))
def A51_2 (v0 v4 v5 v7 v8 v9 v10 : Value) (h : DH) (Z : Value → DH → Prop) : Prop := ∀ a : DA, DA.val a 0 = v0 → DA.val a 4 = v4 → DA.val a 5 = v5 → DA.val a 7 = v7 → DA.val a 8 = v8 → DA.val a 9 = v9 → DA.val a 10 = v10 → W Try.prog (Cd.sR (Cd.sR (Cd.bB (Cd.sL (Cd.sR (Cd.lB (Cd.bB (Cd.sR (Cd.sL (Cd.sR (Cd.sR (Cd.sR body51)))))))))))) a h (kont Try.prog [.block 1, .seq (Cd.sR (Cd.sR (Cd.lB (Cd.bB (Cd.sR (Cd.sL (Cd.sR (Cd.sR (Cd.sR body51))))))))), .loop (Cd.lB (Cd.bB (Cd.sR (Cd.sL (Cd.sR (Cd.sR (Cd.sR body51))))))), .block 0, .seq (Cd.sR (Cd.sR (Cd.sR (Cd.sR body51))))] (Fin Try.prog Try.f51 Z))
def A51_3 (v0 v7 v8 v12 : Value) (h : DH) (Z : Value → DH → Prop) : Prop := ∀ a : DA, DA.val a 0 = v0 → DA.val a 7 = v7 → DA.val a 8 = v8 → DA.val a 12 = v12 → W Try.prog (Cd.bB (Cd.sR (Cd.sL (Cd.sR (Cd.sR (Cd.sR (Cd.sR body51))))))) a h (kont Try.prog [.block 4, .seq (Cd.sR (Cd.sR (Cd.sR (Cd.sR (Cd.sR body51)))))] (Fin Try.prog Try.f51 Z))
def A51_4 (v0 v4 v5 v7 v8 v9 v10 v11 : Value) (h : DH) (Z : Value → DH → Prop) : Prop := ∀ a : DA, DA.val a 0 = v0 → DA.val a 4 = v4 → DA.val a 5 = v5 → DA.val a 7 = v7 → DA.val a 8 = v8 → DA.val a 9 = v9 → DA.val a 10 = v10 → DA.val a 11 = v11 → W Try.prog (Cd.bB (Cd.sR (Cd.sR (Cd.sR (Cd.bB (Cd.sL (Cd.sR (Cd.lB (Cd.bB (Cd.sR (Cd.sL (Cd.sR (Cd.sR (Cd.sR body51)))))))))))))) a h (kont Try.prog [.block 2, .block 1, .seq (Cd.sR (Cd.sR (Cd.lB (Cd.bB (Cd.sR (Cd.sL (Cd.sR (Cd.sR (Cd.sR body51))))))))), .loop (Cd.lB (Cd.bB (Cd.sR (Cd.sL (Cd.sR (Cd.sR (Cd.sR body51))))))), .block 0, .seq (Cd.sR (Cd.sR (Cd.sR (Cd.sR body51))))] (Fin Try.prog Try.f51 Z))
def A51_5 (v0 v7 v8 v12 v13 v14 : Value) (h : DH) (Z : Value → DH → Prop) : Prop := ∀ a : DA, DA.val a 0 = v0 → DA.val a 7 = v7 → DA.val a 8 = v8 → DA.val a 12 = v12 → DA.val a 13 = v13 → DA.val a 14 = v14 → W Try.prog (Cd.bB (Cd.sR (Cd.sL (Cd.sR (Cd.bB (Cd.sL (Cd.sR (Cd.lB (Cd.bB (Cd.sR (Cd.sL (Cd.sR (Cd.sR (Cd.sR (Cd.sR body51))))))))))))))) a h (kont Try.prog [.block 6, .seq (Cd.sR (Cd.sR (Cd.bB (Cd.sL (Cd.sR (Cd.lB (Cd.bB (Cd.sR (Cd.sL (Cd.sR (Cd.sR (Cd.sR (Cd.sR body51))))))))))))), .block 5, .seq (Cd.sR (Cd.sR (Cd.lB (Cd.bB (Cd.sR (Cd.sL (Cd.sR (Cd.sR (Cd.sR (Cd.sR body51)))))))))), .loop (Cd.lB (Cd.bB (Cd.sR (Cd.sL (Cd.sR (Cd.sR (Cd.sR (Cd.sR body51)))))))), .block 4, .seq (Cd.sR (Cd.sR (Cd.sR (Cd.sR (Cd.sR body51)))))] (Fin Try.prog Try.f51 Z))
theorem R51 {v0 v1 v2 : Value} {h : DH} {Z : Value → DH → Prop} (H : oh (bx 28 h v1) fun v4_1 h2 => oh (bx 37 h2 v2) fun v5_3 h4 => A51_1 v0 v4_1 v5_3 (Value.slice none 0 0) (Value.slice none 0 0) (Value.int .i64 0) h4 Z) : CP Try.prog 51 [v0, v1, v2] h Z := by
  refine CP_of df51 ?_
  refine W_seq ?_
  refine W_plain ?_
  refine VO_2 s_box H fun v4_1 h2 H => ?_
  refine VO_2 s_box H fun v5_3 h4 H => ?_
  refine VO_5 s_assign ?_
  refine VO_nil ?_
  refine kont_seq ?_
  refine W_seq ?_
  refine W_plain ?_
  refine VO_5 s_assign ?_
  refine VO_nil ?_
  refine kont_seq ?_
  refine W_seq ?_
  refine W_plain ?_
  refine VO_5 s_assign ?_
  refine VO_nil ?_
  refine kont_seq ?_
  refine W_seq ?_
  refine W_seq ?_
  refine W_plain ?_
  refine VO_5 s_assign ?_
  refine VO_nil ?_
  refine kont_seq ?_
  refine W_block ?_
  exact H _ rfl rfl rfl rfl rfl rfl

theorem R51_1 {v0 v4 v5 v7 v8 v9 : Value} {h : DH} {Z : Value → DH → Prop} (H : obP (fa 1 v5) fun v16_5 => obP (ld1 h v16_5) fun v17_6 => obP (lenS v17_6) fun v18_7 => obP (ibin .leq v9 v18_7) fun v19_8 => obP (asB v19_8) fun b9 => bP b9 (obP (fa 0 v5) fun v22_10 => obP (ld1 h v22_10) fun v23_11 => obP (ibin .gtr v9 (Value.int .i64 0)) fun v25_12 => obP (asB v25_12) fun b13 => bP b13 (obP (fa 1 v5) fun v26_14 => obP (ld1 h v26_14) fun v27_15 => obP (ibin .sub v9 (Value.int .i64 1)) fun v29_16 => obP (iaS 2 v27_15 v29_16) fun v30_17 => obP (fa 1 v30_17) fun v31_18 => obP (ld1 h v31_18) fun v32_19 => obP (fa 1 v5) fun v33_20 => obP (ld1 h v33_20) fun v34_21 => obP (ibin .sub v9 (Value.int .i64 1)) fun v36_22 => obP (iaS 2 v34_21 v36_22) fun v37_23 => obP (fa 0 v37_23) fun v38_24 => obP (ld1 h v38_24) fun v39_25 => obP (asB v39_25) fun b26 => bP b26 (obP (bld [(Value.int .i64 0), (Value.int .i64 0), (Value.int .i64 0), (Value.string ⟨#[]⟩), (Value.slice none 0 0), (Value.int .i64 0), (Value.int .i64 0), (Value.slice none 0 0)] [((0, 1), (Value.int .i64 2)), ((5, 1), v9)]) fun v42_27 => oh (bldSl 134 8 1 [(Value.int .i64 0), (Value.int .i64 0), (Value.int .i64 0), (Value.string ⟨#[]⟩), (Value.slice none 0 0), (Value.int .i64 0), (Value.int .i64 0), (Value.slice none 0 0)] [((0, 8), v42_27)] h) fun v43_28 h29 => oh (appS 134 104 8 h29 v8 v43_28) fun v44_30 h31 => obP (ibin .add v9 (Value.int .i64 1)) fun v21_32 => A51_1 v0 v4 v5 v7 v44_30 v21_32 h31 Z) (A51_2 v0 v4 v5 v7 v8 v9 v32_19 h Z)) (A51_2 v0 v4 v5 v7 v8 v9 v23_11 h Z)) (A51_3 v0 v7 v8 (Value.int .i64 0) h Z)) : A51_1 v0 v4 v5 v7 v8 v9 h Z := by
  intro a e0 e4 e5 e7 e8 e9
  subst e0 e4 e5 e7 e8 e9
  refine W_loop ?_
  refine W_seq ?_
  refine W_seq ?_
  refine W_plain ?_
  refine VO_5 s_move ?_
  refine VO_1 (s_fa tf37_1 rfl) H fun v16_5 H => ?_
  refine VO_1 (s_load1 ag34) H fun v17_6 H => ?_
  refine VO_1 (s_lenS ud34) H fun v18_7 H => ?_
  refine VO_1 s_ibin H fun v19_8 H => ?_
  refine VO_nil ?_
  refine kont_seq ?_
  refine obP_elim H fun b9 eb9 H => W_cond eb9 (bP_imp H (fun H => ?_) (fun H => ?_))
  · refine W_skip ?_
    refine kont_seq ?_
    refine W_seq ?_
    refine W_block ?_
    refine W_seq ?_
    refine W_plain ?_
    refine VO_1 (s_fa tf37_0 rfl) H fun v22_10 H => ?_
    refine VO_1 (s_load1 ag3) H fun v23_11 H => ?_
    refine VO_5 s_assign ?_
    refine VO_nil ?_
    refine kont_seq ?_
    refine W_seq ?_
    refine W_seq ?_
    refine W_plain ?_
    refine VO_5 s_move ?_
    refine VO_1 s_ibin H fun v25_12 H => ?_
    refine VO_nil ?_
    refine kont_seq ?_
    refine obP_elim H fun b13 eb13 H => W_cond eb13 (bP_imp H (fun H => ?_) (fun H => ?_))
    · refine W_seq ?_
      refine W_plain ?_
      refine VO_1 (s_fa tf37_1 rfl) H fun v26_14 H => ?_
      refine VO_1 (s_load1 ag34) H fun v27_15 H => ?_
      refine VO_5 s_move ?_
      refine VO_1 s_ibin H fun v29_16 H => ?_
      refine VO_1 (s_iaS sl34 el34 sz90) H fun v30_17 H => ?_
      refine VO_1 (s_fa tf90_1 rfl) H fun v31_18 H => ?_
      refine VO_1 (s_load1 ag3) H fun v32_19 H => ?_
      refine VO_5 s_assign ?_
      refine VO_nil ?_
      refine kont_seq ?_
      refine W_seq ?_
      refine W_plain ?_
      refine VO_1 (s_fa tf37_1 rfl) H fun v33_20 H => ?_
      refine VO_1 (s_load1 ag34) H fun v34_21 H => ?_
      refine VO_5 s_move ?_
      refine VO_1 s_ibin H fun v36_22 H => ?_
      refine VO_1 (s_iaS sl34 el34 sz90) H fun v37_23 H => ?_
      refine VO_1 (s_fa tf90_0 rfl) H fun v38_24 H => ?_
      refine VO_1 (s_load1 ag4) H fun v39_25 H => ?_
      refine VO_nil ?_
      refine kont_seq ?_
      refine obP_elim H fun b26 eb26 H => W_cond eb26 (bP_imp H (fun H => ?_) (fun H => ?_))
      · refine W_seq ?_
        refine W_plain ?_
        refine VO_5 s_move ?_
        refine VO_5 s_move ?_
        refine VO_1 (s_bld zc134 ud134 hs134 (fil_cons tf134_0 (fil_cons tf134_2 fil_nil)) (fil_top (fil_top rfl))) H fun v42_27 H => ?_
        refine VO_2 (s_bldSl el132 sz134 zr134 (fil_cons rfl fil_nil) (fil_top rfl)) H fun v43_28 h29 H => ?_
        refine VO_2 (s_app el132 ud132 sz134 by134 zr134) H fun v44_30 h31 H => ?_
        refine VO_5 s_assign ?_
        refine VO_nil ?_
        refine kont_seq ?_
        refine W_exit ?_
        refine kont_xs rfl ?_
        refine kont_block ?_
        refine kont_seq ?_
        refine W_plain ?_
        refine VO_5 s_move ?_
        refine VO_1 s_ibin H fun v21_32 H => ?_
        refine VO_5 s_assign ?_
        refine VO_nil ?_
        exact kont_loop (H _ rfl rfl rfl rfl rfl rfl)
      · refine W_skip ?_
        exact kont_seq (H _ rfl rfl rfl rfl rfl rfl rfl)
    · refine W_skip ?_
      exact kont_seq (H _ rfl rfl rfl rfl rfl rfl rfl)
  · refine W_exit ?_
    refine kont_xs rfl ?_
    refine kont_xl rfl ?_
    refine kont_block ?_
    refine kont_seq ?_
    refine W_seq ?_
    refine W_seq ?_
    refine W_plain ?_
    refine VO_5 s_assign ?_
    refine VO_nil ?_
    refine kont_seq ?_
    refine W_block ?_
    exact H _ rfl rfl rfl rfl

theorem R51_2 {v0 v4 v5 v7 v8 v9 v10 : Value} {h : DH} {Z : Value → DH → Prop} (H : A51_4 v0 v4 v5 v7 v8 v9 v10 (Value.int .i64 0) h Z) : A51_2 v0 v4 v5 v7 v8 v9 v10 h Z := by
  intro a e0 e4 e5 e7 e8 e9 e10
  subst e0 e4 e5 e7 e8 e9 e10
  refine W_seq ?_
  refine W_plain ?_
  refine VO_5 s_assign ?_
  refine VO_nil ?_
  refine kont_seq ?_
  refine W_block ?_
  exact H _ rfl rfl rfl rfl rfl rfl rfl rfl

theorem R51_3 {v0 v7 v8 v12 : Value} {h : DH} {Z : Value → DH → Prop} (H : obP (lenS v7) fun v73_33 => obP (ibin .lss v12 v73_33) fun v74_34 => obP (asB v74_34) fun b35 => bP b35 (CP Try.prog 45 [v0, (Value.int .i64 5)] h fun v78_36 h37 => obP (bld [(Value.int .i64 0), (Value.int .i64 0), (Value.string ⟨#[]⟩), (Value.slice none 0 0)] [((0, 1), (Value.int .i64 1)), ((1, 1), v78_36)]) fun v79_38 => CP Try.prog 69 [v79_38] h37 fun v80_39 h40 => oh (al 134 [(Value.int .i64 0), (Value.int .i64 0), (Value.int .i64 0), (Value.string ⟨#[]⟩), (Value.slice none 0 0), (Value.int .i64 0), (Value.int .i64 0), (Value.slice none 0 0)] h40) fun v13_41 h42 => obP (st 8 h42 v13_41 v80_39) fun h43 => CP Try.prog 45 [v0, (Value.int .i64 3)] h43 fun v82_44 h45 => A51_5 v0 v7 v8 v12 v13_41 v82_44 h45 Z) (Z v7 h)) : A51_3 v0 v7 v8 v12 h Z := by
  intro a e0 e7 e8 e12
  subst e0 e7 e8 e12
  refine W_loop ?_
  refine W_seq ?_
  refine W_seq ?_
  refine W_plain ?_
  refine VO_5 s_move ?_
  refine VO_5 s_move ?_
  refine VO_1 (s_lenS ud35) H fun v73_33 H => ?_
  refine VO_1 s_ibin H fun v74_34 H => ?_
  refine VO_nil ?_
  refine kont_seq ?_
  refine obP_elim H fun b35 eb35 H => W_cond eb35 (bP_imp H (fun H => ?_) (fun H => ?_))
  · refine W_skip ?_
    refine kont_seq ?_
    refine W_seq ?_
    refine W_block ?_
    refine W_seq ?_
    refine W_plain ?_
    refine VO_5 s_move ?_
    refine VO_4 rfl H fun v78_36 h37 H => ?_
    refine VO_1 (s_bld zc131 ud131 hs131 (fil_cons tf131_0 (fil_cons tf131_1 fil_nil)) (fil_top (fil_top rfl))) H fun v79_38 H => ?_
    refine VO_4 rfl H fun v80_39 h40 H => ?_
    refine VO_2 (s_al zc134) H fun v13_41 h42 H => ?_
    refine VO_3 (s_store sz134) H fun h43 H => ?_
    refine VO_nil ?_
    refine kont_seq ?_
    refine W_seq ?_
    refine W_seq ?_
    refine W_plain ?_
    refine VO_5 s_move ?_
    refine VO_4 rfl H fun v82_44 h45 H => ?_
    refine VO_5 s_assign ?_
    refine VO_nil ?_
    refine kont_seq ?_
    refine W_block ?_
    exact H _ rfl rfl rfl rfl rfl rfl
  · refine W_exit ?_
    refine kont_xs rfl ?_
    refine kont_xl rfl ?_
    refine kont_block ?_
    refine kont_seq ?_
    refine W_seq ?_
    refine W_plain ?_
    refine VO_5 s_move ?_
    refine VO_5 s_assign ?_
    refine VO_nil ?_
    refine kont_seq ?_
    refine W_ret ?_
    exact ⟨rfl, obP_of (dres_mk (lm_cons rfl lm_nil)) H⟩

theorem R51_4 {v0 v4 v5 v7 v8 v9 v10 v11 : Value} {h : DH} {Z : Value → DH → Prop} (H : obP (ldN 3 h v4) fun v46_46 => CP Try.prog 102 [v46_46, v10] h fun v48_47 h48 => obP (ibin .lss v11 v48_47) fun v49_49 => obP (asB v49_49) fun b50 => bP b50 (obP (ibin .eql v9 (Value.int .i64 0)) fun v53_51 => obP (ldN 3 h48 v4) fun v54_52 => CP Try.prog 103 [v54_52, v10, v11] h48 fun v57_53 h54 => obP (dbin Try.prog .eql 4 (.tmp 53) (.tmp 57) v53_51 v57_53) fun v58_55 => obP (asB v58_55) fun b56 => bP b56 (CP Try.prog 70 [v9, v11] h54 fun v62_57 h58 => oh (bldSl 134 8 1 [(Value.int .i64 0), (Value.int .i64 0), (Value.int .i64 0), (Value.string ⟨#[]⟩), (Value.slice none 0 0), (Value.int .i64 0), (Value.int .i64 0), (Value.slice none 0 0)] [((0, 8), v62_57)] h58) fun v63_59 h60 => oh (appS 134 104 8 h60 v8 v63_59) fun v64_61 h62 => obP (ibin .add v11 (Value.int .i64 1)) fun v51_63 => A51_4 v0 v4 v5 v7 v64_61 v9 v10 v51_63 h62 Z) (obP (bld [(Value.int .i64 0), (Value.int .i64 0), (Value.int .i64 0), (Value.int .i64 0), (Value.int .i64 0), (Value.string ⟨#[]⟩), (Value.slice none 0 0), (Value.int .i64 0), (Value.int .i64 0), (Value.slice none 0 0)] [((0, 1), v9), ((1, 1), v11)]) fun v68_64 => oh (bldSl 137 10 1 [(Value.int .i64 0), (Value.int .i64 0), (Value.int .i64 0), (Value.int .i64 0), (Value.int .i64 0), (Value.string ⟨#[]⟩), (Value.slice none 0 0), (Value.int .i64 0), (Value.int .i64 0), (Value.slice none 0 0)] [((0, 10), v68_64)] h54) fun v69_65 h66 => oh (appS 137 120 10 h66 v7 v69_65) fun v70_67 h68 => obP (ibin .add v11 (Value.int .i64 1)) fun v51_69 => A51_4 v0 v4 v5 v70_67 v8 v9 v10 v51_69 h68 Z)) (obP (ibin .add v9 (Value.int .i64 1)) fun v21_70 => A51_1 v0 v4 v5 v7 v8 v21_70 h48 Z)) : A51_4 v0 v4 v5 v7 v8 v9 v10 v11 h Z := by
  intro a e0 e4 e5 e7 e8 e9 e10 e11
  subst e0 e4 e5 e7 e8 e9 e10 e11
  refine W_loop ?_
  refine W_seq ?_
  refine W_seq ?_
  refine W_plain ?_
  refine VO_5 s_move ?_
  refine VO_1 (s_loadN ag28 sz28) H fun v46_46 H => ?_
  refine VO_5 s_move ?_
  refine VO_4 rfl H fun v48_47 h48 H => ?_
  refine VO_1 s_ibin H fun v49_49 H => ?_
  refine VO_nil ?_
  refine kont_seq ?_
  refine obP_elim H fun b50 eb50 H => W_cond eb50 (bP_imp H (fun H => ?_) (fun H => ?_))
  · refine W_skip ?_
    refine kont_seq ?_
    refine W_seq ?_
    refine W_block ?_
    refine W_seq ?_
    refine W_plain ?_
    refine VO_5 s_move ?_
    refine VO_1 s_ibin H fun v53_51 H => ?_
    refine VO_1 (s_loadN ag28 sz28) H fun v54_52 H => ?_
    refine VO_5 s_move ?_
    refine VO_5 s_move ?_
    refine VO_4 rfl H fun v57_53 h54 H => ?_
    refine VO_1 s_gbin H fun v58_55 H => ?_
    refine VO_nil ?_
    refine kont_seq ?_
    refine obP_elim H fun b56 eb56 H => W_cond eb56 (bP_imp H (fun H => ?_) (fun H => ?_))
    · refine W_plain ?_
      refine VO_5 s_move ?_
      refine VO_5 s_move ?_
      refine VO_5 s_move ?_
      refine VO_4 rfl H fun v62_57 h58 H => ?_
      refine VO_2 (s_bldSl el132 sz134 zr134 (fil_cons rfl fil_nil) (fil_top rfl)) H fun v63_59 h60 H => ?_
      refine VO_2 (s_app el132 ud132 sz134 by134 zr134) H fun v64_61 h62 H => ?_
      refine VO_5 s_assign ?_
      refine VO_nil ?_
      refine kont_block ?_
      refine kont_seq ?_
      refine W_plain ?_
      refine VO_5 s_move ?_
      refine VO_1 s_ibin H fun v51_63 H => ?_
      refine VO_5 s_assign ?_
      refine VO_nil ?_
      exact kont_loop (H _ rfl rfl rfl rfl rfl rfl rfl rfl)
    · refine W_plain ?_
      refine VO_5 s_move ?_
      refine VO_5 s_move ?_
      refine VO_5 s_move ?_
      refine VO_1 (s_bld zc137 ud137 hs137 (fil_cons tf137_0 (fil_cons tf137_1 fil_nil)) (fil_top (fil_top rfl))) H fun v68_64 H => ?_
      refine VO_2 (s_bldSl el35 sz137 zr137 (fil_cons rfl fil_nil) (fil_top rfl)) H fun v69_65 h66 H => ?_
      refine VO_2 (s_app el35 ud35 sz137 by137 zr137) H fun v70_67 h68 H => ?_
      refine VO_5 s_assign ?_
      refine VO_nil ?_
      refine kont_block ?_
      refine kont_seq ?_
      refine W_plain ?_
      refine VO_5 s_move ?_
      refine VO_1 s_ibin H fun v51_69 H => ?_
      refine VO_5 s_assign ?_
      refine VO_nil ?_
      exact kont_loop (H _ rfl rfl rfl rfl rfl rfl rfl rfl)
  · refine W_exit ?_
    refine kont_xs rfl ?_
    refine kont_xl rfl ?_
    refine kont_block ?_
    refine kont_block ?_
    refine kont_seq ?_
    refine W_plain ?_
    refine VO_5 s_move ?_
    refine VO_1 s_ibin H fun v21_70 H => ?_
    refine VO_5 s_assign ?_
    refine VO_nil ?_
    exact kont_loop (H _ rfl rfl rfl rfl rfl rfl)

theorem R51_5 {v0 v7 v8 v12 v13 v14 : Value} {h : DH} {Z : Value → DH → Prop} (H : obP (ibin .gtr v14 (Value.int .i64 0)) fun v84_71 => obP (gotB v84_71 true) fun w72 => g1 w72 (lenS (sel w72 v8 undef)) fun v87_73 => g1 w72 (ibin .gtr v87_73 (Value.int .i64 0)) fun v88_74 => obP (pk v84_71 v88_74 (Value.bool false)) fun v89_75 => obP (asB v89_75) fun b76 => bP b76 (oh (bldSl 3 1 4 [(Value.int .i64 0)] [((0, 1), (Value.int .i64 4)), ((1, 1), (Value.int .i64 7)), ((2, 1), (Value.int .i64 13)), ((3, 1), (Value.int .i64 14))] h) fun v92_77 h78 => CP Try.prog 45 [v0, (Value.int .i64 4)] (reset h78) fun v94_79 h80 => obP (iaS 1 v92_77 v94_79) fun v95_81 => obP (ld1 (lowered h80 h78.low) v95_81) fun v96_82 => obP (ldN 8 (lowered h80 h78.low) v13) fun v97_83 => obP (lenS v8) fun v101_84 => CP Try.prog 45 [v0, v101_84] (reset (lowered h80 h78.low)) fun v102_85 h86 => obP (iaS 8 v8 v102_85) fun v103_87 => obP (ldN 8 (lowered h86 (lowered h80 h78.low).low) v103_87) fun v104_88 => oh (bldSl 134 8 2 [(Value.int .i64 0), (Value.int .i64 0), (Value.int .i64 0), (Value.string ⟨#[]⟩), (Value.slice none 0 0), (Value.int .i64 0), (Value.int .i64 0), (Value.slice none 0 0)] [((0, 8), v97_83), ((8, 8), v104_88)] (lowered h86 (lowered h80 h78.low).low)) fun v105_89 h90 => obP (bld [(Value.int .i64 0), (Value.int .i64 0), (Value.int .i64 0), (Value.string ⟨#[]⟩), (Value.slice none 0 0), (Value.int .i64 0), (Value.int .i64 0), (Value.slice none 0 0)] [((0, 1), v96_82), ((7, 1), v105_89)]) fun v106_91 => obP (st 8 h90 v13 v106_91) fun h92 => (either (callFoot h78 h80) ⟨some (blockOf v13), .none⟩ = true ∧ either (callFoot h78 h80) ⟨some (blockOf v8), .none⟩ = true ∧ either ⟨some (blockOf v95_81), .none⟩ (callFoot (lowered h80 h78.low) h86) = true ∧ either ⟨some (blockOf v13), .none⟩ (callFoot (lowered h80 h78.low) h86) = true) ∧ (obP (ibin .sub v14 (Value.int .i64 1)) fun v91_93 => A51_5 v0 v7 v8 v12 v13 v91_93 h92 Z)) (obP (ldN 8 h v13) fun v109_94 => obP (iaS 10 v7 v12) fun v110_95 => obP (fa 2 v110_95) fun v111_96 => obP (st 8 h v111_96 v109_94) fun h97 => obP (ibin .add v12 (Value.int .i64 1)) fun v76_98 => A51_3 v0 v7 v8 v76_98 h97 Z)) : A51_5 v0 v7 v8 v12 v13 v14 h Z := by
  intro a e0 e7 e8 e12 e13 e14
  subst e0 e7 e8 e12 e13 e14
  refine W_loop ?_
  refine W_seq ?_
  refine W_seq ?_
  refine W_plain ?_
  refine VO_5 s_move ?_
  refine VO_1 s_ibin H fun v84_71 H => ?_
  refine VO_5 s_move ?_
  refine obP_elim H fun w72 ew72 H => ?_
  refine VO_5m rfl ew72 s_move ?_
  refine VO_1g rfl ew72 (s_lenS ud132) H fun v87_73 H => ?_
  refine VO_1g rfl ew72 s_ibin H fun v88_74 H => ?_
  refine VO_1 s_pk H fun v89_75 H => ?_
  refine VO_nil ?_
  refine kont_seq ?_
  refine obP_elim H fun b76 eb76 H => W_cond eb76 (bP_imp H (fun H => ?_) (fun H => ?_))
  · refine W_skip ?_
    refine kont_seq ?_
    refine W_seq ?_
    refine W_block ?_
    refine W_drawF dp51_24 ?_
    refine VF_2 rfl (s_bldSl el32 sz3 zr3 (fil_cons rfl (fil_cons rfl (fil_cons rfl (fil_cons rfl fil_nil)))) (fil_top (fil_top (fil_top (fil_top rfl))))) H fun v92_77 h78 H => ?_
    refine VF_5 rfl s_move ?_
    refine VF_4 rfl rfl H fun v94_79 h80 H => ?_
    refine VF_1 rfl (s_iaS sl32 el32 sz3) H fun v95_81 H => ?_
    refine VF_1 rfl (s_load1 ag3) H fun v96_82 H => ?_
    refine VF_1 rfl (s_loadN ag134 sz134) H fun v97_83 H => ?_
    refine VF_5 rfl s_move ?_
    refine VF_5 rfl s_move ?_
    refine VF_5 rfl s_move ?_
    refine VF_1 rfl (s_lenS ud132) H fun v101_84 H => ?_
    refine VF_4 rfl rfl H fun v102_85 h86 H => ?_
    refine VF_1 rfl (s_iaS sl132 el132 sz134) H fun v103_87 H => ?_
    refine VF_1 rfl (s_loadN ag134 sz134) H fun v104_88 H => ?_
    refine VF_2 rfl (s_bldSl el132 sz134 zr134 (fil_cons rfl (fil_cons rfl fil_nil)) (fil_top (fil_top rfl))) H fun v105_89 h90 H => ?_
    refine VF_1 rfl (s_bld zc134 ud134 hs134 (fil_cons tf134_0 (fil_cons tf134_4 fil_nil)) (fil_top (fil_top rfl))) H fun v106_91 H => ?_
    refine VF_3 rfl (s_store sz134) H fun h92 H => ?_
    refine VF_nil ?_
    refine ⟨eA_cons H.1.1 (eA_cons H.1.2.1 (eA_cons H.1.2.2.1 (eA_cons H.1.2.2.2 eA_nil))), ?_⟩
    replace H := H.2
    refine kont_block ?_
    refine kont_seq ?_
    refine W_plain ?_
    refine VO_5 s_move ?_
    refine VO_1 s_ibin H fun v91_93 H => ?_
    refine VO_5 s_assign ?_
    refine VO_nil ?_
    exact kont_loop (H _ rfl rfl rfl rfl rfl rfl)
  · refine W_exit ?_
    refine kont_xs rfl ?_
    refine kont_xl rfl ?_
    refine kont_block ?_
    refine kont_seq ?_
    refine W_plain ?_
    refine VO_5 s_move ?_
    refine VO_5 s_move ?_
    refine VO_1 (s_loadN ag134 sz134) H fun v109_94 H => ?_
    refine VO_1 (s_iaS sl35 el35 sz137) H fun v110_95 H => ?_
    refine VO_1 (s_fa tf137_2 rfl) H fun v111_96 H => ?_
    refine VO_3 (s_store sz134) H fun h97 H => ?_
    refine VO_nil ?_
    refine kont_block ?_
    refine kont_seq ?_
    refine W_plain ?_
    refine VO_5 s_move ?_
    refine VO_1 s_ibin H fun v76_98 H => ?_
    refine VO_5 s_assign ?_
    refine VO_nil ?_
    exact kont_loop (H _ rfl rfl rfl rfl)

-- lemmata/lemmataref17.Count
noncomputable def body102 : Code := Cd.bO Try.f102
theorem df102 : dfunc Try.prog 102 = some ⟨Try.f102, body102⟩ := by kernel_rfl
theorem dp102_3 : drawPairs (Cd.rO (Cd.sL (Cd.sR (Cd.sR body102)))) = some [] := by kernel_rfl
theorem R102 {v0 v1 : Value} {h : DH} {Z : Value → DH → Prop} (H : oh (bx 28 h v0) fun v2_1 h2 => obP (ibin .lss v1 (Value.int .i64 0)) fun v6_3 => obP (gotB v6_3 false) fun w4 => g1 w4 (fa 1 v2_1) fun v9_5 => g1 w4 (ld1 h2 v9_5) fun v10_6 => g1 w4 (lenS v10_6) fun v11_7 => g1 w4 (ibin .geq (sel w4 v1 undef) v11_7) fun v12_8 => obP (pk v6_3 (Value.bool true) v12_8) fun v13_9 => obP (asB v13_9) fun b10 => bP b10 (Z (Value.int .i64 0) h2) (obP (fa 1 v2_1) fun v14_11 => obP (ld1 h2 v14_11) fun v15_12 => obP (iaS 3 v15_12 v1) fun v17_13 => obP (fa 1 v17_13) fun v18_14 => obP (ld1 h2 v18_14) fun v19_15 => obP (lenS v19_15) fun v20_16 => obP (fa 1 v2_1) fun v21_17 => obP (ld1 h2 v21_17) fun v22_18 => obP (iaS 3 v22_18 v1) fun v24_19 => obP (fa 2 v24_19) fun v25_20 => obP (ld1 h2 v25_20) fun v26_21 => obP (lenS v26_21) fun v27_22 => obP (ibin .add v20_16 v27_22) fun v28_23 => Z v28_23 h2)) : CP Try.prog 102 [v0, v1] h Z := by
  refine CP_of df102 ?_
  refine W_seq ?_
  refine W_plain ?_
  refine VO_2 s_box H fun v2_1 h2 H => ?_
  refine VO_5 s_assign ?_
  refine VO_nil ?_
  refine kont_seq ?_
  refine W_seq ?_
  refine W_seq ?_
  refine W_plain ?_
  refine VO_5 s_move ?_
  refine VO_1 s_ibin H fun v6_3 H => ?_
  refine VO_5 s_move ?_
  refine obP_elim H fun w4 ew4 H => ?_
  refine VO_5m rfl ew4 s_move ?_
  refine VO_1g rfl ew4 (s_fa tf28_1 rfl) H fun v9_5 H => ?_
  refine VO_1g rfl ew4 (s_load1 ag25) H fun v10_6 H => ?_
  refine VO_1g rfl ew4 (s_lenS ud25) H fun v11_7 H => ?_
  refine VO_1g rfl ew4 s_ibin H fun v12_8 H => ?_
  refine VO_1 s_pk H fun v13_9 H => ?_
  refine VO_nil ?_
  refine kont_seq ?_
  refine obP_elim H fun b10 eb10 H => W_cond eb10 (bP_imp H (fun H => ?_) (fun H => ?_))
  · refine W_seq ?_
    refine W_plain ?_
    refine VO_5 s_assign ?_
    refine VO_nil ?_
    refine kont_seq ?_
    refine W_ret ?_
    refine kont_xs rfl ?_
    exact ⟨rfl, obP_of (dres_mk (lm_cons rfl lm_nil)) H⟩
  · refine W_skip ?_
    refine kont_seq ?_
    refine W_seq ?_
    refine W_draw dp102_3 ?_
    refine VO_1 (s_fa tf28_1 rfl) H fun v14_11 H => ?_
    refine VO_1 (s_load1 ag25) H fun v15_12 H => ?_
    refine VO_5 s_move ?_
    refine VO_1 (s_iaS sl25 el25 sz101) H fun v17_13 H => ?_
    refine VO_1 (s_fa tf101_1 rfl) H fun v18_14 H => ?_
    refine VO_1 (s_load1 ag56) H fun v19_15 H => ?_
    refine VO_1 (s_lenS ud56) H fun v20_16 H => ?_
    refine VO_1 (s_fa tf28_1 rfl) H fun v21_17 H => ?_
    refine VO_1 (s_load1 ag25) H fun v22_18 H => ?_
    refine VO_5 s_move ?_
    refine VO_1 (s_iaS sl25 el25 sz101) H fun v24_19 H => ?_
    refine VO_1 (s_fa tf101_2 rfl) H fun v25_20 H => ?_
    refine VO_1 (s_load1 ag56) H fun v26_21 H => ?_
    refine VO_1 (s_lenS ud56) H fun v27_22 H => ?_
    refine VO_1 s_ibin H fun v28_23 H => ?_
    refine VO_5 s_assign ?_
    refine VO_nil ?_
    refine kont_seq ?_
    refine W_ret ?_
    exact ⟨rfl, obP_of (dres_mk (lm_cons rfl lm_nil)) H⟩

-- lemmata/lemmataref17.IsInh
noncomputable def body103 : Code := Cd.bO Try.f103
theorem df103 : dfunc Try.prog 103 = some ⟨Try.f103, body103⟩ := by kernel_rfl
theorem R103 {v0 v1 v2 : Value} {h : DH} {Z : Value → DH → Prop} (H : oh (bx 28 h v0) fun v3_1 h2 => obP (ibin .geq v1 (Value.int .i64 0)) fun v8_3 => obP (gotB v8_3 true) fun w4 => g1 w4 (fa 1 v3_1) fun v11_5 => g1 w4 (ld1 h2 v11_5) fun v12_6 => g1 w4 (lenS v12_6) fun v13_7 => g1 w4 (ibin .lss (sel w4 v1 undef) v13_7) fun v14_8 => obP (pk v8_3 v14_8 (Value.bool false)) fun v15_9 => obP (gotB v15_9 true) fun w10 => g1 w10 (ibin .geq (sel w10 v2 undef) (Value.int .i64 0)) fun v18_11 => obP (pk v15_9 v18_11 (Value.bool false)) fun v19_12 => obP (gotB v19_12 true) fun w13 => g1 w13 (fa 1 v3_1) fun v22_14 => g1 w13 (ld1 h2 v22_14) fun v23_15 => g1 w13 (iaS 3 v23_15 (sel w13 v1 undef)) fun v25_16 => g1 w13 (fa 1 v25_16) fun v26_17 => g1 w13 (ld1 h2 v26_17) fun v27_18 => g1 w13 (lenS v27_18) fun v28_19 => g1 w13 (ibin .lss (sel w13 v2 undef) v28_19) fun v29_20 => obP (pk v19_12 v29_20 (Value.bool false)) fun v30_21 => Z v30_21 h2) : CP Try.prog 103 [v0, v1, v2] h Z := by
  refine CP_of df103 ?_
  refine W_seq ?_
  refine W_plain ?_
  refine VO_2 s_box H fun v3_1 h2 H => ?_
  refine VO_5 s_assign ?_
  refine VO_nil ?_
  refine kont_seq ?_
  refine W_seq ?_
  refine W_plain ?_
  refine VO_5 s_move ?_
  refine VO_1 s_ibin H fun v8_3 H => ?_
  refine VO_5 s_move ?_
  refine obP_elim H fun w4 ew4 H => ?_
  refine VO_5m rfl ew4 s_move ?_
  refine VO_1g rfl ew4 (s_fa tf28_1 rfl) H fun v11_5 H => ?_
  refine VO_1g rfl ew4 (s_load1 ag25) H fun v12_6 H => ?_
  refine VO_1g rfl ew4 (s_lenS ud25) H fun v13_7 H => ?_
  refine VO_1g rfl ew4 s_ibin H fun v14_8 H => ?_
  refine VO_1 s_pk H fun v15_9 H => ?_
  refine VO_5 s_move ?_
  refine obP_elim H fun w10 ew10 H => ?_
  refine VO_5m rfl ew10 s_move ?_
  refine VO_1g rfl ew10 s_ibin H fun v18_11 H => ?_
  refine VO_1 s_pk H fun v19_12 H => ?_
  refine VO_5 s_move ?_
  refine obP_elim H fun w13 ew13 H => ?_
  refine VO_5m rfl ew13 s_move ?_
  refine VO_1g rfl ew13 (s_fa tf28_1 rfl) H fun v22_14 H => ?_
  refine VO_1g rfl ew13 (s_load1 ag25) H fun v23_15 H => ?_
  refine VO_5m rfl ew13 s_move ?_
  refine VO_1g rfl ew13 (s_iaS sl25 el25 sz101) H fun v25_16 H => ?_
  refine VO_1g rfl ew13 (s_fa tf101_1 rfl) H fun v26_17 H => ?_
  refine VO_1g rfl ew13 (s_load1 ag56) H fun v27_18 H => ?_
  refine VO_1g rfl ew13 (s_lenS ud56) H fun v28_19 H => ?_
  refine VO_1g rfl ew13 s_ibin H fun v29_20 H => ?_
  refine VO_1 s_pk H fun v30_21 H => ?_
  refine VO_5 s_assign ?_
  refine VO_nil ?_
  refine kont_seq ?_
  refine W_ret ?_
  exact ⟨rfl, obP_of (dres_mk (lm_cons rfl lm_nil)) H⟩

-- lemmata/lemmataplay.con
noncomputable def body69 : Code := Cd.bO Try.f69
theorem df69 : dfunc Try.prog 69 = some ⟨Try.f69, body69⟩ := by kernel_rfl
theorem R69 {v0 : Value} {h : DH} {Z : Value → DH → Prop} (H : oh (bx 131 h v0) fun v1_1 h2 => oh (al 134 [(Value.int .i64 0), (Value.int .i64 0), (Value.int .i64 0), (Value.string ⟨#[]⟩), (Value.slice none 0 0), (Value.int .i64 0), (Value.int .i64 0), (Value.slice none 0 0)] h2) fun v2_3 h4 => obP (ldN 4 h4 v1_1) fun v3_5 => obP (bld [(Value.int .i64 0), (Value.int .i64 0), (Value.int .i64 0), (Value.string ⟨#[]⟩), (Value.slice none 0 0), (Value.int .i64 0), (Value.int .i64 0), (Value.slice none 0 0)] [((0, 1), (Value.int .i64 0)), ((1, 4), v3_5)]) fun v4_6 => obP (st 8 h4 v2_3 v4_6) fun h7 => obP (ldN 8 h7 v2_3) fun r8 => Z r8 h7) : CP Try.prog 69 [v0] h Z := by
  refine CP_of df69 ?_
  refine W_seq ?_
  refine W_plain ?_
  refine VO_2 s_box H fun v1_1 h2 H => ?_
  refine VO_2 (s_al zc134) H fun v2_3 h4 H => ?_
  refine VO_nil ?_
  refine kont_seq ?_
  refine W_seq ?_
  refine W_plain ?_
  refine VO_1 (s_loadN ag131 sz131) H fun v3_5 H => ?_
  refine VO_1 (s_bld zc134 ud134 hs134 (fil_cons tf134_0 (fil_cons tf134_1 fil_nil)) (fil_top (fil_top rfl))) H fun v4_6 H => ?_
  refine VO_3 (s_store sz134) H fun h7 H => ?_
  refine VO_nil ?_
  refine kont_seq ?_
  refine W_ret ?_
  refine obP_elim H fun r8 er8 H => ?_
  exact ⟨rfl, obP_of (dres_mk (lm_cons ((dload_N ag134 sz134).trans er8) lm_nil)) H⟩

-- lemmata/lemmataplay.ref
noncomputable def body70 : Code := Cd.bO Try.f70
theorem df70 : dfunc Try.prog 70 = some ⟨Try.f70, body70⟩ := by kernel_rfl
theorem R70 {v0 v1 : Value} {h : DH} {Z : Value → DH → Prop} (H : oh (al 134 [(Value.int .i64 0), (Value.int .i64 0), (Value.int .i64 0), (Value.string ⟨#[]⟩), (Value.slice none 0 0), (Value.int .i64 0), (Value.int .i64 0), (Value.slice none 0 0)] h) fun v4_1 h2 => obP (bld [(Value.int .i64 0), (Value.int .i64 0), (Value.int .i64 0), (Value.string ⟨#[]⟩), (Value.slice none 0 0), (Value.int .i64 0), (Value.int .i64 0), (Value.slice none 0 0)] [((0, 1), (Value.int .i64 1)), ((5, 1), v0), ((6, 1), v1)]) fun v7_3 => obP (st 8 h2 v4_1 v7_3) fun h4 => obP (ldN 8 h4 v4_1) fun r5 => Z r5 h4) : CP Try.prog 70 [v0, v1] h Z := by
  refine CP_of df70 ?_
  refine W_seq ?_
  refine W_plain ?_
  refine VO_2 (s_al zc134) H fun v4_1 h2 H => ?_
  refine VO_nil ?_
  refine kont_seq ?_
  refine W_seq ?_
  refine W_plain ?_
  refine VO_5 s_move ?_
  refine VO_5 s_move ?_
  refine VO_1 (s_bld zc134 ud134 hs134 (fil_cons tf134_0 (fil_cons tf134_2 (fil_cons tf134_3 fil_nil))) (fil_top (fil_top (fil_top rfl)))) H fun v7_3 H => ?_
  refine VO_3 (s_store sz134) H fun h4 H => ?_
  refine VO_nil ?_
  refine kont_seq ?_
  refine W_ret ?_
  refine obP_elim H fun r5 er5 H => ?_
  exact ⟨rfl, obP_of (dres_mk (lm_cons ((dload_N ag134 sz134).trans er5) lm_nil)) H⟩

end Go.Det
end
/- PRINTED BY gen.py: the conditions of functions. -/
set_option linter.unusedVariables false
set_option linter.unusedSimpArgs false
set_option maxRecDepth 100000
noncomputable section
namespace Go.Det
open Go.Proofs
-- lemmata/gram.Offset
noncomputable def body17 : Code := Cd.bO Try.f17
theorem df17 : dfunc Try.prog 17 = some ⟨Try.f17, body17⟩ := by kernel_rfl
def A17_1 (v1 v4 v8 v9 v10 : Value) (h : DH) (Z : Value → DH → Prop) : Prop := ∀ a : DA, DA.val a 1 = v1 → DA.val a 4 = v4 → DA.val a 8 = v8 → DA.val a 9 = v9 → DA.val a 10 = v10 → W Try.prog (Cd.bB (Cd.sR (Cd.sL (Cd.sR body17)))) a h (kont Try.prog [.block 0, .seq (Cd.sR (Cd.sR body17))] (Fin Try.prog Try.f17 Z))
theorem R17 {v0 v1 : Value} {h : DH} {Z : Value → DH → Prop} (H : oh (bx 28 h v0) fun v2_1 h2 => obP (fa 2 v2_1) fun v7_3 => obP (ld1 h2 v7_3) fun v8_4 => obP (lenS v8_4) fun v9_5 => A17_1 v1 (Value.slice none 0 0) v8_4 v9_5 (Value.int .i64 0) h2 Z) : CP Try.prog 17 [v0, v1] h Z := by
  refine CP_of df17 ?_
  refine W_seq ?_
  refine W_plain ?_
  refine VO_2 s_box H fun v2_1 h2 H => ?_
  refine VO_5 s_assign ?_
  refine VO_nil ?_
  refine kont_seq ?_
  refine W_seq ?_
  refine W_seq ?_
  refine W_plain ?_
  refine VO_1 (s_fa tf28_2 rfl) H fun v7_3 H => ?_
  refine VO_1 (s_load1 ag26) H fun v8_4 H => ?_
  refine VO_1 (s_lenS ud26) H fun v9_5 H => ?_
  refine VO_5 s_move ?_
  refine VO_nil ?_
  refine kont_seq ?_
  refine W_block ?_
  exact H _ rfl rfl rfl rfl rfl

theorem R17_1 {v1 v4 v8 v9 v10 : Value} {h : DH} {Z : Value → DH → Prop} (H : obP (ibin .lss v10 v9) fun v11_6 => obP (asB v11_6) fun b7 => bP b7 (obP (iaS 3 v8 v10) fun v13_8 => obP (ldN 3 h v13_8) fun v14_9 => oh (al 37 [(Value.int .i64 0), (Value.slice none 0 0), (Value.slice none 0 0)] h) fun v6_10 h11 => obP (st 3 h11 v6_10 v14_9) fun h12 => obP (fa 0 v6_10) fun v15_13 => obP (ld1 h12 v15_13) fun v16_14 => obP (ibin .eql v16_14 v1) fun v18_15 => obP (asB v18_15) fun b16 => bP b16 (oh (bldSl 3 1 1 [(Value.int .i64 0)] [((0, 1), v10)] h12) fun v21_17 h18 => oh (appS 3 8 1 h18 v4 v21_17) fun v22_19 h20 => obP (ibin .add v10 (Value.int .i64 1)) fun v23_21 => A17_1 v1 v22_19 v8 v9 v23_21 h20 Z) (obP (ibin .add v10 (Value.int .i64 1)) fun v23_22 => A17_1 v1 v4 v8 v9 v23_22 h12 Z)) (Z v4 h)) : A17_1 v1 v4 v8 v9 v10 h Z := by
  intro a e1 e4 e8 e9 e10
  subst e1 e4 e8 e9 e10
  refine W_loop ?_
  refine W_seq ?_
  refine W_plain ?_
  refine VO_1 s_ibin H fun v11_6 H => ?_
  refine VO_nil ?_
  refine kont_seq ?_
  refine W_seq ?_
  refine obP_elim H fun b7 eb7 H => W_cond eb7 (bP_imp H (fun H => ?_) (fun H => ?_))
  · refine W_skip ?_
    refine kont_seq ?_
    refine W_seq ?_
    refine W_block ?_
    refine W_seq ?_
    refine W_plain ?_
    refine VO_5 s_move ?_
    refine VO_1 (s_iaS sl26 el26 sz37) H fun v13_8 H => ?_
    refine VO_1 (s_loadN ag37 sz37) H fun v14_9 H => ?_
    refine VO_2 (s_al zc37) H fun v6_10 h11 H => ?_
    refine VO_5 s_assign ?_
    refine VO_3 (s_store sz37) H fun h12 H => ?_
    refine VO_nil ?_
    refine kont_seq ?_
    refine W_seq ?_
    refine W_plain ?_
    refine VO_1 (s_fa tf37_0 rfl) H fun v15_13 H => ?_
    refine VO_1 (s_load1 ag3) H fun v16_14 H => ?_
    refine VO_5 s_move ?_
    refine VO_1 s_ibin H fun v18_15 H => ?_
    refine VO_nil ?_
    refine kont_seq ?_
    refine obP_elim H fun b16 eb16 H => W_cond eb16 (bP_imp H (fun H => ?_) (fun H => ?_))
    · refine W_plain ?_
      refine VO_5 s_move ?_
      refine VO_5 s_move ?_
      refine VO_2 (s_bldSl el32 sz3 zr3 (fil_cons rfl fil_nil) (fil_top rfl)) H fun v21_17 h18 H => ?_
      refine VO_2 (s_app el32 ud32 sz3 by3 zr3) H fun v22_19 h20 H => ?_
      refine VO_5 s_assign ?_
      refine VO_nil ?_
      refine kont_block ?_
      refine kont_seq ?_
      refine W_plain ?_
      refine VO_1 s_ibin H fun v23_21 H => ?_
      refine VO_5 s_move ?_
      refine VO_nil ?_
      exact kont_loop (H _ rfl rfl rfl rfl rfl)
    · refine W_skip ?_
      refine kont_block ?_
      refine kont_seq ?_
      refine W_plain ?_
      refine VO_1 s_ibin H fun v23_22 H => ?_
      refine VO_5 s_move ?_
      refine VO_nil ?_
      exact kont_loop (H _ rfl rfl rfl rfl rfl)
  · refine W_exit ?_
    refine kont_xs rfl ?_
    refine kont_xl rfl ?_
    refine kont_block ?_
    refine kont_seq ?_
    refine W_seq ?_
    refine W_plain ?_
    refine VO_5 s_move ?_
    refine VO_5 s_assign ?_
    refine VO_nil ?_
    refine kont_seq ?_
    refine W_ret ?_
    exact ⟨rfl, obP_of (dres_mk (lm_cons rfl lm_nil)) H⟩

-- lemmata/lemmatalaw11.GramOffset
noncomputable def body3 : Code := Cd.bO Try.f3
theorem df3 : dfunc Try.prog 3 = some ⟨Try.f3, body3⟩ := by kernel_rfl
theorem dp3_14 : drawPairs (Cd.rO (Cd.sL (Cd.bB (Cd.sL (Cd.sR (Cd.lB (Cd.bB (Cd.sR (Cd.sL (Cd.sR (Cd.bB (Cd.sL (Cd.sR (Cd.lB (Cd.bB (Cd.sR (Cd.sL (Cd.sR (Cd.sR (Cd.sR (Cd.sR (Cd.sR body3)))))))))))))))))))))) = some [] := by kernel_rfl
def A3_1 (v3 v4 v5 : Value) (h : DH) (Z : Value → DH → Prop) : Prop := ∀ a : DA, DA.val a 3 = v3 → DA.val a 4 = v4 → DA.val a 5 = v5 → W Try.prog (Cd.bB (Cd.sR (Cd.sL (Cd.sR (Cd.sR (Cd.sR (Cd.sR (Cd.sR body3)))))))) a h (kont Try.prog [.block 0, .seq (Cd.sR (Cd.sR (Cd.sR (Cd.sR (Cd.sR (Cd.sR body3))))))] (Fin Try.prog Try.f3 Z))
def A3_2 (v3 v4 v5 v6 v7 : Value) (h : DH) (Z : Value → DH → Prop) : Prop := ∀ a : DA, DA.val a 3 = v3 → DA.val a 4 = v4 → DA.val a 5 = v5 → DA.val a 6 = v6 → DA.val a 7 = v7 → W Try.prog (Cd.bB (Cd.sR (Cd.sL (Cd.sR (Cd.bB (Cd.sL (Cd.sR (Cd.lB (Cd.bB (Cd.sR (Cd.sL (Cd.sR (Cd.sR (Cd.sR (Cd.sR (Cd.sR body3)))))))))))))))) a h (kont Try.prog [.block 2, .seq (Cd.sR (Cd.sR (Cd.bB (Cd.sL (Cd.sR (Cd.lB (Cd.bB (Cd.sR (Cd.sL (Cd.sR (Cd.sR (Cd.sR (Cd.sR (Cd.sR body3)))))))))))))), .block 1, .seq (Cd.sR (Cd.sR (Cd.lB (Cd.bB (Cd.sR (Cd.sL (Cd.sR (Cd.sR (Cd.sR (Cd.sR (Cd.sR body3))))))))))), .loop (Cd.lB (Cd.bB (Cd.sR (Cd.sL (Cd.sR (Cd.sR (Cd.sR (Cd.sR (Cd.sR body3))))))))), .block 0, .seq (Cd.sR (Cd.sR (Cd.sR (Cd.sR (Cd.sR (Cd.sR body3))))))] (Fin Try.prog Try.f3 Z))
theorem R3 {v0 : Value} {h : DH} {Z : Value → DH → Prop} (H : CP Try.prog 14 [] h fun v8_1 h2 => obP (bnot v8_1) fun v9_3 => obP (asB v9_3) fun b4 => bP b4 (Z (Value.bool false) h2) (obP (lenS v0) fun v11_5 => obP (ibin .gtr v11_5 (Value.int .i64 150)) fun v12_6 => obP (asB v12_6) fun b7 => bP b7 (Z (Value.bool true) h2) (CP Try.prog 15 [v0] h2 fun v14_8 h9 => CP Try.prog 16 [v14_8] h9 fun v15_10 h11 => oh (al 28 [(Value.slice none 0 0), (Value.slice none 0 0), (Value.slice none 0 0)] h11) fun v3_12 h13 => obP (st 3 h13 v3_12 v15_10) fun h14 => A3_1 v3_12 (Value.int .i64 0) (Value.int .i64 0) h14 Z))) : CP Try.prog 3 [v0] h Z := by
  refine CP_of df3 ?_
  refine W_seq ?_
  refine W_plain ?_
  refine VO_5 s_assign ?_
  refine VO_nil ?_
  refine kont_seq ?_
  refine W_seq ?_
  refine W_seq ?_
  refine W_plain ?_
  refine VO_4 rfl H fun v8_1 h2 H => ?_
  refine VO_1 s_not H fun v9_3 H => ?_
  refine VO_nil ?_
  refine kont_seq ?_
  refine obP_elim H fun b4 eb4 H => W_cond eb4 (bP_imp H (fun H => ?_) (fun H => ?_))
  · refine W_seq ?_
    refine W_plain ?_
    refine VO_5 s_assign ?_
    refine VO_nil ?_
    refine kont_seq ?_
    refine W_ret ?_
    refine kont_xs rfl ?_
    exact ⟨rfl, obP_of (dres_mk (lm_cons rfl lm_nil)) H⟩
  · refine W_skip ?_
    refine kont_seq ?_
    refine W_seq ?_
    refine W_seq ?_
    refine W_plain ?_
    refine VO_5 s_move ?_
    refine VO_1 (s_lenS ud22) H fun v11_5 H => ?_
    refine VO_1 s_ibin H fun v12_6 H => ?_
    refine VO_nil ?_
    refine kont_seq ?_
    refine obP_elim H fun b7 eb7 H => W_cond eb7 (bP_imp H (fun H => ?_) (fun H => ?_))
    · refine W_seq ?_
      refine W_plain ?_
      refine VO_5 s_assign ?_
      refine VO_nil ?_
      refine kont_seq ?_
      refine W_ret ?_
      refine kont_xs rfl ?_
      exact ⟨rfl, obP_of (dres_mk (lm_cons rfl lm_nil)) H⟩
    · refine W_skip ?_
      refine kont_seq ?_
      refine W_seq ?_
      refine W_plain ?_
      refine VO_5 s_move ?_
      refine VO_4 rfl H fun v14_8 h9 H => ?_
      refine VO_4 rfl H fun v15_10 h11 H => ?_
      refine VO_2 (s_al zc28) H fun v3_12 h13 H => ?_
      refine VO_3 (s_store sz28) H fun h14 H => ?_
      refine VO_nil ?_
      refine kont_seq ?_
      refine W_seq ?_
      refine W_plain ?_
      refine VO_5 s_assign ?_
      refine VO_nil ?_
      refine kont_seq ?_
      refine W_seq ?_
      refine W_seq ?_
      refine W_plain ?_
      refine VO_5 s_assign ?_
      refine VO_nil ?_
      refine kont_seq ?_
      refine W_block ?_
      exact H _ rfl rfl rfl

theorem R3_1 {v3 v4 v5 : Value} {h : DH} {Z : Value → DH → Prop} (H : obP (fa 1 v3) fun v17_15 => obP (ld1 h v17_15) fun v18_16 => obP (lenS v18_16) fun v19_17 => obP (ibin .lss v5 v19_17) fun v20_18 => obP (asB v20_18) fun b19 => bP b19 (obP (ldN 3 h v3) fun v23_20 => CP Try.prog 17 [v23_20, v5] h fun v25_21 h22 => A3_2 v3 v4 v5 v25_21 (Value.int .i64 0) h22 Z) (obP (fa 2 v3) fun v81_23 => obP (ld1 h v81_23) fun v82_24 => obP (lenS v82_24) fun v83_25 => obP (ibin .eql v4 v83_25) fun v84_26 => obP (gotB v84_26 true) fun w27 => g1 w27 (ldN 3 h v3) fun v86_28 => g1 w27 (fa 1 v3) fun v87_29 => g1 w27 (ld1 h v87_29) fun v88_30 => g1 w27 (lenS v88_30) fun v89_31 => g4 Try.prog w27 17 [v86_28, v89_31] h fun v90_32 h33 => g1 w27 (lenS v90_32) fun v91_34 => g1 w27 (ibin .eql v91_34 (Value.int .i64 0)) fun v92_35 => obP (pk v84_26 v92_35 (Value.bool false)) fun v93_36 => Z v93_36 h33)) : A3_1 v3 v4 v5 h Z := by
  intro a e3 e4 e5
  subst e3 e4 e5
  refine W_loop ?_
  refine W_seq ?_
  refine W_seq ?_
  refine W_plain ?_
  refine VO_5 s_move ?_
  refine VO_1 (s_fa tf28_1 rfl) H fun v17_15 H => ?_
  refine VO_1 (s_load1 ag25) H fun v18_16 H => ?_
  refine VO_1 (s_lenS ud25) H fun v19_17 H => ?_
  refine VO_1 s_ibin H fun v20_18 H => ?_
  refine VO_nil ?_
  refine kont_seq ?_
  refine obP_elim H fun b19 eb19 H => W_cond eb19 (bP_imp H (fun H => ?_) (fun H => ?_))
  · refine W_skip ?_
    refine kont_seq ?_
    refine W_seq ?_
    refine W_block ?_
    refine W_seq ?_
    refine W_plain ?_
    refine VO_1 (s_loadN ag28 sz28) H fun v23_20 H => ?_
    refine VO_5 s_move ?_
    refine VO_4 rfl H fun v25_21 h22 H => ?_
    refine VO_5 s_assign ?_
    refine VO_nil ?_
    refine kont_seq ?_
    refine W_seq ?_
    refine W_seq ?_
    refine W_plain ?_
    refine VO_5 s_assign ?_
    refine VO_nil ?_
    refine kont_seq ?_
    refine W_block ?_
    exact H _ rfl rfl rfl rfl rfl
  · refine W_exit ?_
    refine kont_xs rfl ?_
    refine kont_xl rfl ?_
    refine kont_block ?_
    refine kont_seq ?_
    refine W_seq ?_
    refine W_plain ?_
    refine VO_5 s_move ?_
    refine VO_1 (s_fa tf28_2 rfl) H fun v81_23 H => ?_
    refine VO_1 (s_load1 ag26) H fun v82_24 H => ?_
    refine VO_1 (s_lenS ud26) H fun v83_25 H => ?_
    refine VO_1 s_ibin H fun v84_26 H => ?_
    refine VO_5 s_move ?_
    refine obP_elim H fun w27 ew27 H => ?_
    refine VO_1g rfl ew27 (s_loadN ag28 sz28) H fun v86_28 H => ?_
    refine VO_1g rfl ew27 (s_fa tf28_1 rfl) H fun v87_29 H => ?_
    refine VO_1g rfl ew27 (s_load1 ag25) H fun v88_30 H => ?_
    refine VO_1g rfl ew27 (s_lenS ud25) H fun v89_31 H => ?_
    refine VO_4g rfl ew27 rfl H fun v90_32 h33 H => ?_
    refine VO_1g rfl ew27 (s_lenS ud32) H fun v91_34 H => ?_
    refine VO_1g rfl ew27 s_ibin H fun v92_35 H => ?_
    refine VO_1 s_pk H fun v93_36 H => ?_
    refine VO_5 s_assign ?_
    refine VO_nil ?_
    refine kont_seq ?_
    refine W_ret ?_
    exact ⟨rfl, obP_of (dres_mk (lm_cons rfl lm_nil)) H⟩

theorem R3_2 {v3 v4 v5 v6 v7 : Value} {h : DH} {Z : Value → DH → Prop} (H : obP (lenS v6) fun v28_37 => obP (ibin .lss v7 v28_37) fun v29_38 => obP (asB v29_38) fun b39 => bP b39 (obP (iaS 1 v6 v7) fun v34_40 => obP (ld1 h v34_40) fun v35_41 => obP (ibin .lss v35_41 (Value.int .i64 0)) fun v36_42 => obP (gotB v36_42 false) fun w43 => g1 w43 (iaS 1 (sel w43 v6 undef) (sel w43 v7 undef)) fun v40_44 => g1 w43 (ld1 h v40_44) fun v41_45 => g1 w43 (fa 2 v3) fun v42_46 => g1 w43 (ld1 h v42_46) fun v43_47 => g1 w43 (lenS v43_47) fun v44_48 => g1 w43 (ibin .geq v41_45 v44_48) fun v45_49 => obP (pk v36_42 (Value.bool true) v45_49) fun v46_50 => obP (gotB v46_50 false) fun w51 => g1 w51 (fa 2 v3) fun v48_52 => g1 w51 (ld1 h v48_52) fun v49_53 => g1 w51 (iaS 1 (sel w51 v6 undef) (sel w51 v7 undef)) fun v52_54 => g1 w51 (ld1 h v52_54) fun v53_55 => g1 w51 (iaS 3 v49_53 v53_55) fun v54_56 => g1 w51 (fa 0 v54_56) fun v55_57 => g1 w51 (ld1 h v55_57) fun v56_58 => g1 w51 (ibin .neq v56_58 (sel w51 v5 undef)) fun v58_59 => obP (pk v46_50 (Value.bool true) v58_59) fun v59_60 => obP (gotB v59_60 false) fun w61 => g1 w61 (ibin .gtr (sel w61 v7 undef) (Value.int .i64 0)) fun v62_62 => obP (gotB (sel w61 v62_62 undef) true) fun w63 => g1 w63 (iaS 1 (sel w63 v6 undef) (sel w63 v7 undef)) fun v66_64 => g1 w63 (ld1 h v66_64) fun v67_65 => g1 w63 (ibin .sub (sel w63 v7 undef) (Value.int .i64 1)) fun v70_66 => g1 w63 (iaS 1 (sel w63 v6 undef) v70_66) fun v71_67 => g1 w63 (ld1 h v71_67) fun v72_68 => g1 w63 (ibin .leq v67_65 v72_68) fun v73_69 => g1 w61 (pk (sel w61 v62_62 undef) v73_69 (Value.bool false)) fun v74_70 => obP (pk v59_60 (Value.bool true) v74_70) fun v75_71 => obP (asB v75_71) fun b72 => bP b72 (Z (Value.bool false) h) (obP (ibin .add v7 (Value.int .i64 1)) fun v31_73 => A3_2 v3 v4 v5 v6 v31_73 h Z)) (obP (lenS v6) fun v78_74 => obP (ibin .add v4 v78_74) fun v79_75 => obP (ibin .add v5 (Value.int .i64 1)) fun v22_76 => A3_1 v3 v79_75 v22_76 h Z)) : A3_2 v3 v4 v5 v6 v7 h Z := by
  intro a e3 e4 e5 e6 e7
  subst e3 e4 e5 e6 e7
  refine W_loop ?_
  refine W_seq ?_
  refine W_seq ?_
  refine W_plain ?_
  refine VO_5 s_move ?_
  refine VO_5 s_move ?_
  refine VO_1 (s_lenS ud32) H fun v28_37 H => ?_
  refine VO_1 s_ibin H fun v29_38 H => ?_
  refine VO_nil ?_
  refine kont_seq ?_
  refine obP_elim H fun b39 eb39 H => W_cond eb39 (bP_imp H (fun H => ?_) (fun H => ?_))
  · refine W_skip ?_
    refine kont_seq ?_
    refine W_seq ?_
    refine W_block ?_
    refine W_seq ?_
    refine W_draw dp3_14 ?_
    refine VO_5 s_move ?_
    refine VO_5 s_move ?_
    refine VO_1 (s_iaS sl32 el32 sz3) H fun v34_40 H => ?_
    refine VO_1 (s_load1 ag3) H fun v35_41 H => ?_
    refine VO_1 s_ibin H fun v36_42 H => ?_
    refine VO_5 s_move ?_
    refine obP_elim H fun w43 ew43 H => ?_
    refine VO_5m rfl ew43 s_move ?_
    refine VO_5m rfl ew43 s_move ?_
    refine VO_1g rfl ew43 (s_iaS sl32 el32 sz3) H fun v40_44 H => ?_
    refine VO_1g rfl ew43 (s_load1 ag3) H fun v41_45 H => ?_
    refine VO_1g rfl ew43 (s_fa tf28_2 rfl) H fun v42_46 H => ?_
    refine VO_1g rfl ew43 (s_load1 ag26) H fun v43_47 H => ?_
    refine VO_1g rfl ew43 (s_lenS ud26) H fun v44_48 H => ?_
    refine VO_1g rfl ew43 s_ibin H fun v45_49 H => ?_
    refine VO_1 s_pk H fun v46_50 H => ?_
    refine VO_5 s_move ?_
    refine obP_elim H fun w51 ew51 H => ?_
    refine VO_1g rfl ew51 (s_fa tf28_2 rfl) H fun v48_52 H => ?_
    refine VO_1g rfl ew51 (s_load1 ag26) H fun v49_53 H => ?_
    refine VO_5m rfl ew51 s_move ?_
    refine VO_5m rfl ew51 s_move ?_
    refine VO_1g rfl ew51 (s_iaS sl32 el32 sz3) H fun v52_54 H => ?_
    refine VO_1g rfl ew51 (s_load1 ag3) H fun v53_55 H => ?_
    refine VO_1g rfl ew51 (s_iaS sl26 el26 sz37) H fun v54_56 H => ?_
    refine VO_1g rfl ew51 (s_fa tf37_0 rfl) H fun v55_57 H => ?_
    refine VO_1g rfl ew51 (s_load1 ag3) H fun v56_58 H => ?_
    refine VO_5m rfl ew51 s_move ?_
    refine VO_1g rfl ew51 s_ibin H fun v58_59 H => ?_
    refine VO_1 s_pk H fun v59_60 H => ?_
    refine VO_5 s_move ?_
    refine obP_elim H fun w61 ew61 H => ?_
    refine VO_5m rfl ew61 s_move ?_
    refine VO_1g rfl ew61 s_ibin H fun v62_62 H => ?_
    refine VO_5m rfl ew61 s_move ?_
    refine obP_elim H fun w63 ew63 H => ?_
    refine VO_5m rfl ew63 s_move ?_
    refine VO_5m rfl ew63 s_move ?_
    refine VO_1g rfl ew63 (s_iaS sl32 el32 sz3) H fun v66_64 H => ?_
    refine VO_1g rfl ew63 (s_load1 ag3) H fun v67_65 H => ?_
    refine VO_5m rfl ew63 s_move ?_
    refine VO_5m rfl ew63 s_move ?_
    refine VO_1g rfl ew63 s_ibin H fun v70_66 H => ?_
    refine VO_1g rfl ew63 (s_iaS sl32 el32 sz3) H fun v71_67 H => ?_
    refine VO_1g rfl ew63 (s_load1 ag3) H fun v72_68 H => ?_
    refine VO_1g rfl ew63 s_ibin H fun v73_69 H => ?_
    refine VO_1g rfl ew61 s_pk H fun v74_70 H => ?_
    refine VO_1 s_pk H fun v75_71 H => ?_
    refine VO_nil ?_
    refine kont_seq ?_
    refine obP_elim H fun b72 eb72 H => W_cond eb72 (bP_imp H (fun H => ?_) (fun H => ?_))
    · refine W_seq ?_
      refine W_plain ?_
      refine VO_5 s_assign ?_
      refine VO_nil ?_
      refine kont_seq ?_
      refine W_ret ?_
      refine kont_block ?_
      refine kont_xs rfl ?_
      refine kont_xl rfl ?_
      refine kont_block ?_
      refine kont_xs rfl ?_
      refine kont_block ?_
      refine kont_xs rfl ?_
      refine kont_xl rfl ?_
      refine kont_block ?_
      refine kont_xs rfl ?_
      exact ⟨rfl, obP_of (dres_mk (lm_cons rfl lm_nil)) H⟩
    · refine W_skip ?_
      refine kont_block ?_
      refine kont_seq ?_
      refine W_plain ?_
      refine VO_5 s_move ?_
      refine VO_1 s_ibin H fun v31_73 H => ?_
      refine VO_5 s_assign ?_
      refine VO_nil ?_
      exact kont_loop (H _ rfl rfl rfl rfl rfl)
  · refine W_exit ?_
    refine kont_xs rfl ?_
    refine kont_xl rfl ?_
    refine kont_block ?_
    refine kont_seq ?_
    refine W_plain ?_
    refine VO_5 s_move ?_
    refine VO_5 s_move ?_
    refine VO_1 (s_lenS ud32) H fun v78_74 H => ?_
    refine VO_1 s_ibin H fun v79_75 H => ?_
    refine VO_5 s_assign ?_
    refine VO_nil ?_
    refine kont_block ?_
    refine kont_seq ?_
    refine W_plain ?_
    refine VO_5 s_move ?_
    refine VO_1 s_ibin H fun v22_76 H => ?_
    refine VO_5 s_assign ?_
    refine VO_nil ?_
    exact kont_loop (H _ rfl rfl rfl)

end Go.Det
end
/- PRINTED BY gen.py: the conditions of functions. -/
set_option linter.unusedVariables false
set_option linter.unusedSimpArgs false
set_option maxRecDepth 100000
noncomputable section
namespace Go.Det
open Go.Proofs
-- lemmata/gram.May
noncomputable def body49 : Code := Cd.bO Try.f49
theorem df49 : dfunc Try.prog 49 = some ⟨Try.f49, body49⟩ := by kernel_rfl
def A49_1 (v1 v3 v26 v27 v28 : Value) (h : DH) (Z : Value → DH → Prop) : Prop := ∀ a : DA, DA.val a 1 = v1 → DA.val a 3 = v3 → DA.val a 26 = v26 → DA.val a 27 = v27 → DA.val a 28 = v28 → W Try.prog (Cd.bB (Cd.sR (Cd.sL (Cd.sR (Cd.sR (Cd.sR body49)))))) a h (kont Try.prog [.block 0, .seq (Cd.sR (Cd.sR (Cd.sR (Cd.sR body49))))] (Fin Try.prog Try.f49 Z))
def A49_2 (v1 v3 v39 v40 v41 : Value) (h : DH) (Z : Value → DH → Prop) : Prop := ∀ a : DA, DA.val a 1 = v1 → DA.val a 3 = v3 → DA.val a 39 = v39 → DA.val a 40 = v40 → DA.val a 41 = v41 → W Try.prog (Cd.bB (Cd.sR (Cd.sL (Cd.sR (Cd.sR (Cd.sR (Cd.sR body49))))))) a h (kont Try.prog [.block 2, .seq (Cd.sR (Cd.sR (Cd.sR (Cd.sR (Cd.sR body49)))))] (Fin Try.prog Try.f49 Z))
theorem R49 {v0 : Value} {h : DH} {Z : Value → DH → Prop} (H : oh (bx 28 h v0) fun v1_1 h2 => obP (fa 0 v1_1) fun v9_3 => obP (ld1 h2 v9_3) fun v10_4 => CP Try.prog 87 [v10_4, (Value.int .i64 8)] h2 fun v11_5 h6 => obP (bnot v11_5) fun v12_7 => obP (gotB v12_7 false) fun w8 => g1 w8 (fa 1 v1_1) fun v14_9 => g1 w8 (ld1 h6 v14_9) fun v15_10 => g4 Try.prog w8 88 [v15_10, (Value.int .i64 8)] h6 fun v16_11 h12 => g1 w8 (bnot v16_11) fun v17_13 => obP (pk v12_7 (Value.bool true) v17_13) fun v18_14 => obP (gotB v18_14 false) fun w15 => g1 w15 (fa 2 v1_1) fun v20_16 => g1 w15 (ld1 h12 v20_16) fun v21_17 => g4 Try.prog w15 89 [v21_17, (Value.int .i64 16)] h12 fun v22_18 h19 => g1 w15 (bnot v22_18) fun v23_20 => obP (pk v18_14 (Value.bool true) v23_20) fun v24_21 => obP (asB v24_21) fun b22 => bP b22 (Z (Value.bool false) h19) (obP (fa 0 v1_1) fun v25_23 => obP (ld1 h19 v25_23) fun v26_24 => obP (lenS v26_24) fun v27_25 => A49_1 v1_1 (Value.slice none 0 0) v26_24 v27_25 (Value.int .i64 0) h19 Z)) : CP Try.prog 49 [v0] h Z := by
  refine CP_of df49 ?_
  refine W_seq ?_
  refine W_plain ?_
  refine VO_2 s_box H fun v1_1 h2 H => ?_
  refine VO_5 s_assign ?_
  refine VO_nil ?_
  refine kont_seq ?_
  refine W_seq ?_
  refine W_seq ?_
  refine W_plain ?_
  refine VO_1 (s_fa tf28_0 rfl) H fun v9_3 H => ?_
  refine VO_1 (s_load1 ag24) H fun v10_4 H => ?_
  refine VO_4 rfl H fun v11_5 h6 H => ?_
  refine VO_1 s_not H fun v12_7 H => ?_
  refine VO_5 s_move ?_
  refine obP_elim H fun w8 ew8 H => ?_
  refine VO_1g rfl ew8 (s_fa tf28_1 rfl) H fun v14_9 H => ?_
  refine VO_1g rfl ew8 (s_load1 ag25) H fun v15_10 H => ?_
  refine VO_4g rfl ew8 rfl H fun v16_11 h12 H => ?_
  refine VO_1g rfl ew8 s_not H fun v17_13 H => ?_
  refine VO_1 s_pk H fun v18_14 H => ?_
  refine VO_5 s_move ?_
  refine obP_elim H fun w15 ew15 H => ?_
  refine VO_1g rfl ew15 (s_fa tf28_2 rfl) H fun v20_16 H => ?_
  refine VO_1g rfl ew15 (s_load1 ag26) H fun v21_17 H => ?_
  refine VO_4g rfl ew15 rfl H fun v22_18 h19 H => ?_
  refine VO_1g rfl ew15 s_not H fun v23_20 H => ?_
  refine VO_1 s_pk H fun v24_21 H => ?_
  refine VO_nil ?_
  refine kont_seq ?_
  refine obP_elim H fun b22 eb22 H => W_cond eb22 (bP_imp H (fun H => ?_) (fun H => ?_))
  · refine W_seq ?_
    refine W_plain ?_
    refine VO_5 s_assign ?_
    refine VO_nil ?_
    refine kont_seq ?_
    refine W_ret ?_
    refine kont_xs rfl ?_
    exact ⟨rfl, obP_of (dres_mk (lm_cons rfl lm_nil)) H⟩
  · refine W_skip ?_
    refine kont_seq ?_
    refine W_seq ?_
    refine W_plain ?_
    refine VO_5 s_assign ?_
    refine VO_nil ?_
    refine kont_seq ?_
    refine W_seq ?_
    refine W_seq ?_
    refine W_plain ?_
    refine VO_1 (s_fa tf28_0 rfl) H fun v25_23 H => ?_
    refine VO_1 (s_load1 ag24) H fun v26_24 H => ?_
    refine VO_1 (s_lenS ud24) H fun v27_25 H => ?_
    refine VO_5 s_move ?_
    refine VO_nil ?_
    refine kont_seq ?_
    refine W_block ?_
    exact H _ rfl rfl rfl rfl rfl

theorem R49_1 {v1 v3 v26 v27 v28 : Value} {h : DH} {Z : Value → DH → Prop} (H : obP (ibin .lss v28 v27) fun v29_26 => obP (asB v29_26) fun b27 => bP b27 (obP (iaS 3 v26 v28) fun v30_28 => obP (ldN 3 h v30_28) fun v31_29 => oh (al 99 [(Value.string ⟨#[]⟩), (Value.string ⟨#[]⟩), (Value.bool false)] h) fun v5_30 h31 => obP (st 3 h31 v5_30 v31_29) fun h32 => obP (fa 0 v5_30) fun v33_33 => obP (ld1 h32 v33_33) fun v34_34 => oh (bldSl 9 1 1 [(Value.string ⟨#[]⟩)] [((0, 1), v34_34)] h32) fun v35_35 h36 => oh (appS 9 16 1 h36 v3 v35_35) fun v36_37 h38 => obP (ibin .add v28 (Value.int .i64 1)) fun v37_39 => A49_1 v1 v36_37 v26 v27 v37_39 h38 Z) (obP (fa 1 v1) fun v38_40 => obP (ld1 h v38_40) fun v39_41 => obP (lenS v39_41) fun v40_42 => A49_2 v1 v3 v39_41 v40_42 (Value.int .i64 0) h Z)) : A49_1 v1 v3 v26 v27 v28 h Z := by
  intro a e1 e3 e26 e27 e28
  subst e1 e3 e26 e27 e28
  refine W_loop ?_
  refine W_seq ?_
  refine W_plain ?_
  refine VO_1 s_ibin H fun v29_26 H => ?_
  refine VO_nil ?_
  refine kont_seq ?_
  refine W_seq ?_
  refine obP_elim H fun b27 eb27 H => W_cond eb27 (bP_imp H (fun H => ?_) (fun H => ?_))
  · refine W_skip ?_
    refine kont_seq ?_
    refine W_seq ?_
    refine W_block ?_
    refine W_seq ?_
    refine W_plain ?_
    refine VO_1 (s_iaS sl24 el24 sz99) H fun v30_28 H => ?_
    refine VO_1 (s_loadN ag99 sz99) H fun v31_29 H => ?_
    refine VO_2 (s_al zc99) H fun v5_30 h31 H => ?_
    refine VO_3 (s_store sz99) H fun h32 H => ?_
    refine VO_nil ?_
    refine kont_seq ?_
    refine W_plain ?_
    refine VO_5 s_move ?_
    refine VO_1 (s_fa tf99_0 rfl) H fun v33_33 H => ?_
    refine VO_1 (s_load1 ag9) H fun v34_34 H => ?_
    refine VO_2 (s_bldSl el56 sz9 zr9 (fil_cons rfl fil_nil) (fil_top rfl)) H fun v35_35 h36 H => ?_
    refine VO_2 (s_app el56 ud56 sz9 by9 zr9) H fun v36_37 h38 H => ?_
    refine VO_5 s_assign ?_
    refine VO_nil ?_
    refine kont_block ?_
    refine kont_seq ?_
    refine W_plain ?_
    refine VO_1 s_ibin H fun v37_39 H => ?_
    refine VO_5 s_move ?_
    refine VO_nil ?_
    exact kont_loop (H _ rfl rfl rfl rfl rfl)
  · refine W_exit ?_
    refine kont_xs rfl ?_
    refine kont_xl rfl ?_
    refine kont_block ?_
    refine kont_seq ?_
    refine W_seq ?_
    refine W_seq ?_
    refine W_plain ?_
    refine VO_1 (s_fa tf28_1 rfl) H fun v38_40 H => ?_
    refine VO_1 (s_load1 ag25) H fun v39_41 H => ?_
    refine VO_1 (s_lenS ud25) H fun v40_42 H => ?_
    refine VO_5 s_move ?_
    refine VO_nil ?_
    refine kont_seq ?_
    refine W_block ?_
    exact H _ rfl rfl rfl rfl rfl

theorem R49_2 {v1 v3 v39 v40 v41 : Value} {h : DH} {Z : Value → DH → Prop} (H : obP (ibin .lss v41 v40) fun v42_43 => obP (asB v42_43) fun b44 => bP b44 (obP (iaS 3 v39 v41) fun v43_45 => obP (ldN 3 h v43_45) fun v44_46 => oh (al 101 [(Value.string ⟨#[]⟩), (Value.slice none 0 0), (Value.slice none 0 0)] h) fun v7_47 h48 => obP (st 3 h48 v7_47 v44_46) fun h49 => obP (fa 0 v7_47) fun v46_50 => obP (ld1 h49 v46_50) fun v47_51 => oh (bldSl 9 1 1 [(Value.string ⟨#[]⟩)] [((0, 1), v47_51)] h49) fun v48_52 h53 => oh (appS 9 16 1 h53 v3 v48_52) fun v49_54 h55 => obP (fa 1 v7_47) fun v50_56 => obP (ld1 h55 v50_56) fun v51_57 => obP (fa 2 v7_47) fun v52_58 => obP (ld1 h55 v52_58) fun v53_59 => oh (bldSl 56 1 2 [(Value.slice none 0 0)] [((0, 1), v51_57), ((1, 1), v53_59)] h55) fun v54_60 h61 => CP Try.prog 90 [v54_60] h61 fun v55_62 h63 => obP (lenS v55_62) fun v57_64 => obP (ibin .gtr v57_64 (Value.int .i64 4)) fun v58_65 => obP (gotB v58_65 false) fun w66 => g4 Try.prog w66 91 [(sel w66 v55_62 undef)] h63 fun v61_67 h68 => g1 w66 (bnot v61_67) fun v62_69 => obP (pk v58_65 (Value.bool true) v62_69) fun v63_70 => obP (asB v63_70) fun b71 => bP b71 (Z (Value.bool false) h68) (obP (ibin .add v41 (Value.int .i64 1)) fun v64_72 => A49_2 v1 v49_54 v39 v40 v64_72 h68 Z)) (CP Try.prog 91 [v3] h fun v66_73 h74 => obP (gotB v66_73 true) fun w75 => g1 w75 (fa 2 v1) fun v68_76 => g1 w75 (ld1 h74 v68_76) fun v69_77 => g4 Try.prog w75 92 [v69_77, (sel w75 (Value.func (.func 93) ⟨[]⟩ ⟨[v1]⟩) undef)] h74 fun v71_78 h79 => g1 w75 (bnot v71_78) fun v72_80 => obP (pk v66_73 v72_80 (Value.bool false)) fun v73_81 => Z v73_81 h79)) : A49_2 v1 v3 v39 v40 v41 h Z := by
  intro a e1 e3 e39 e40 e41
  subst e1 e3 e39 e40 e41
  refine W_loop ?_
  refine W_seq ?_
  refine W_plain ?_
  refine VO_1 s_ibin H fun v42_43 H => ?_
  refine VO_nil ?_
  refine kont_seq ?_
  refine W_seq ?_
  refine obP_elim H fun b44 eb44 H => W_cond eb44 (bP_imp H (fun H => ?_) (fun H => ?_))
  · refine W_skip ?_
    refine kont_seq ?_
    refine W_seq ?_
    refine W_block ?_
    refine W_seq ?_
    refine W_plain ?_
    refine VO_1 (s_iaS sl25 el25 sz101) H fun v43_45 H => ?_
    refine VO_1 (s_loadN ag101 sz101) H fun v44_46 H => ?_
    refine VO_2 (s_al zc101) H fun v7_47 h48 H => ?_
    refine VO_3 (s_store sz101) H fun h49 H => ?_
    refine VO_nil ?_
    refine kont_seq ?_
    refine W_seq ?_
    refine W_plain ?_
    refine VO_5 s_move ?_
    refine VO_1 (s_fa tf101_0 rfl) H fun v46_50 H => ?_
    refine VO_1 (s_load1 ag9) H fun v47_51 H => ?_
    refine VO_2 (s_bldSl el56 sz9 zr9 (fil_cons rfl fil_nil) (fil_top rfl)) H fun v48_52 h53 H => ?_
    refine VO_2 (s_app el56 ud56 sz9 by9 zr9) H fun v49_54 h55 H => ?_
    refine VO_5 s_assign ?_
    refine VO_nil ?_
    refine kont_seq ?_
    refine W_seq ?_
    refine W_plain ?_
    refine VO_1 (s_fa tf101_1 rfl) H fun v50_56 H => ?_
    refine VO_1 (s_load1 ag56) H fun v51_57 H => ?_
    refine VO_1 (s_fa tf101_2 rfl) H fun v52_58 H => ?_
    refine VO_1 (s_load1 ag56) H fun v53_59 H => ?_
    refine VO_2 (s_bldSl el184 sz56 zr56 (fil_cons rfl (fil_cons rfl fil_nil)) (fil_top (fil_top rfl))) H fun v54_60 h61 H => ?_
    refine VO_4 rfl H fun v55_62 h63 H => ?_
    refine VO_5 s_assign ?_
    refine VO_nil ?_
    refine kont_seq ?_
    refine W_seq ?_
    refine W_plain ?_
    refine VO_5 s_move ?_
    refine VO_1 (s_lenS ud56) H fun v57_64 H => ?_
    refine VO_1 s_ibin H fun v58_65 H => ?_
    refine VO_5 s_move ?_
    refine obP_elim H fun w66 ew66 H => ?_
    refine VO_5m rfl ew66 s_move ?_
    refine VO_4g rfl ew66 rfl H fun v61_67 h68 H => ?_
    refine VO_1g rfl ew66 s_not H fun v62_69 H => ?_
    refine VO_1 s_pk H fun v63_70 H => ?_
    refine VO_nil ?_
    refine kont_seq ?_
    refine obP_elim H fun b71 eb71 H => W_cond eb71 (bP_imp H (fun H => ?_) (fun H => ?_))
    · refine W_seq ?_
      refine W_plain ?_
      refine VO_5 s_assign ?_
      refine VO_nil ?_
      refine kont_seq ?_
      refine W_ret ?_
      refine kont_block ?_
      refine kont_xs rfl ?_
      refine kont_xl rfl ?_
      refine kont_block ?_
      refine kont_xs rfl ?_
      exact ⟨rfl, obP_of (dres_mk (lm_cons rfl lm_nil)) H⟩
    · refine W_skip ?_
      refine kont_block ?_
      refine kont_seq ?_
      refine W_plain ?_
      refine VO_1 s_ibin H fun v64_72 H => ?_
      refine VO_5 s_move ?_
      refine VO_nil ?_
      exact kont_loop (H _ rfl rfl rfl rfl rfl)
  · refine W_exit ?_
    refine kont_xs rfl ?_
    refine kont_xl rfl ?_
    refine kont_block ?_
    refine kont_seq ?_
    refine W_seq ?_
    refine W_plain ?_
    refine VO_5 s_move ?_
    refine VO_4 rfl H fun v66_73 h74 H => ?_
    refine VO_5 s_move ?_
    refine obP_elim H fun w75 ew75 H => ?_
    refine VO_1g rfl ew75 (s_fa tf28_2 rfl) H fun v68_76 H => ?_
    refine VO_1g rfl ew75 (s_load1 ag26) H fun v69_77 H => ?_
    refine VO_5m rfl ew75 s_makeFunc ?_
    refine VO_4g rfl ew75 rfl H fun v71_78 h79 H => ?_
    refine VO_1g rfl ew75 s_not H fun v72_80 H => ?_
    refine VO_1 s_pk H fun v73_81 H => ?_
    refine VO_5 s_assign ?_
    refine VO_nil ?_
    refine kont_seq ?_
    refine W_ret ?_
    exact ⟨rfl, obP_of (dres_mk (lm_cons rfl lm_nil)) H⟩

-- lemmata/gram.within[lemmata/api.Tok]
noncomputable def body87 : Code := Cd.bO Try.f87
theorem df87 : dfunc Try.prog 87 = some ⟨Try.f87, body87⟩ := by kernel_rfl
theorem R87 {v0 v1 : Value} {h : DH} {Z : Value → DH → Prop} (H : obP (lenS v0) fun v6_1 => obP (ibin .geq v6_1 (Value.int .i64 1)) fun v7_2 => obP (gotB v7_2 true) fun w3 => g1 w3 (lenS (sel w3 v0 undef)) fun v10_4 => g1 w3 (ibin .leq v10_4 (sel w3 v1 undef)) fun v12_5 => obP (pk v7_2 v12_5 (Value.bool false)) fun v13_6 => Z v13_6 h) : CP Try.prog 87 [v0, v1] h Z := by
  refine CP_of df87 ?_
  refine W_seq ?_
  refine W_plain ?_
  refine VO_5 s_assign ?_
  refine VO_nil ?_
  refine kont_seq ?_
  refine W_seq ?_
  refine W_plain ?_
  refine VO_5 s_move ?_
  refine VO_1 (s_lenS ud24) H fun v6_1 H => ?_
  refine VO_1 s_ibin H fun v7_2 H => ?_
  refine VO_5 s_move ?_
  refine obP_elim H fun w3 ew3 H => ?_
  refine VO_5m rfl ew3 s_move ?_
  refine VO_1g rfl ew3 (s_lenS ud24) H fun v10_4 H => ?_
  refine VO_5m rfl ew3 s_move ?_
  refine VO_1g rfl ew3 s_ibin H fun v12_5 H => ?_
  refine VO_1 s_pk H fun v13_6 H => ?_
  refine VO_5 s_assign ?_
  refine VO_nil ?_
  refine kont_seq ?_
  refine W_ret ?_
  exact ⟨rfl, obP_of (dres_mk (lm_cons rfl lm_nil)) H⟩

-- lemmata/gram.within[lemmata/api.Nt]
noncomputable def body88 : Code := Cd.bO Try.f88
theorem df88 : dfunc Try.prog 88 = some ⟨Try.f88, body88⟩ := by kernel_rfl
theorem R88 {v0 v1 : Value} {h : DH} {Z : Value → DH → Prop} (H : obP (lenS v0) fun v6_1 => obP (ibin .geq v6_1 (Value.int .i64 1)) fun v7_2 => obP (gotB v7_2 true) fun w3 => g1 w3 (lenS (sel w3 v0 undef)) fun v10_4 => g1 w3 (ibin .leq v10_4 (sel w3 v1 undef)) fun v12_5 => obP (pk v7_2 v12_5 (Value.bool false)) fun v13_6 => Z v13_6 h) : CP Try.prog 88 [v0, v1] h Z := by
  refine CP_of df88 ?_
  refine W_seq ?_
  refine W_plain ?_
  refine VO_5 s_assign ?_
  refine VO_nil ?_
  refine kont_seq ?_
  refine W_seq ?_
  refine W_plain ?_
  refine VO_5 s_move ?_
  refine VO_1 (s_lenS ud25) H fun v6_1 H => ?_
  refine VO_1 s_ibin H fun v7_2 H => ?_
  refine VO_5 s_move ?_
  refine obP_elim H fun w3 ew3 H => ?_
  refine VO_5m rfl ew3 s_move ?_
  refine VO_1g rfl ew3 (s_lenS ud25) H fun v10_4 H => ?_
  refine VO_5m rfl ew3 s_move ?_
  refine VO_1g rfl ew3 s_ibin H fun v12_5 H => ?_
  refine VO_1 s_pk H fun v13_6 H => ?_
  refine VO_5 s_assign ?_
  refine VO_nil ?_
  refine kont_seq ?_
  refine W_ret ?_
  exact ⟨rfl, obP_of (dres_mk (lm_cons rfl lm_nil)) H⟩

-- lemmata/gram.within[lemmata/api.Prod]
noncomputable def body89 : Code := Cd.bO Try.f89
theorem df89 : dfunc Try.prog 89 = some ⟨Try.f89, body89⟩ := by kernel_rfl
theorem R89 {v0 v1 : Value} {h : DH} {Z : Value → DH → Prop} (H : obP (lenS v0) fun v6_1 => obP (ibin .geq v6_1 (Value.int .i64 1)) fun v7_2 => obP (gotB v7_2 true) fun w3 => g1 w3 (lenS (sel w3 v0 undef)) fun v10_4 => g1 w3 (ibin .leq v10_4 (sel w3 v1 undef)) fun v12_5 => obP (pk v7_2 v12_5 (Value.bool false)) fun v13_6 => Z v13_6 h) : CP Try.prog 89 [v0, v1] h Z := by
  refine CP_of df89 ?_
  refine W_seq ?_
  refine W_plain ?_
  refine VO_5 s_assign ?_
  refine VO_nil ?_
  refine kont_seq ?_
  refine W_seq ?_
  refine W_plain ?_
  refine VO_5 s_move ?_
  refine VO_1 (s_lenS ud26) H fun v6_1 H => ?_
  refine VO_1 s_ibin H fun v7_2 H => ?_
  refine VO_5 s_move ?_
  refine obP_elim H fun w3 ew3 H => ?_
  refine VO_5m rfl ew3 s_move ?_
  refine VO_1g rfl ew3 (s_lenS ud26) H fun v10_4 H => ?_
  refine VO_5m rfl ew3 s_move ?_
  refine VO_1g rfl ew3 s_ibin H fun v12_5 H => ?_
  refine VO_1 s_pk H fun v13_6 H => ?_
  refine VO_5 s_assign ?_
  refine VO_nil ?_
  refine kont_seq ?_
  refine W_ret ?_
  exact ⟨rfl, obP_of (dres_mk (lm_cons rfl lm_nil)) H⟩

-- slices.Concat[[]string,string]
noncomputable def body90 : Code := Cd.bO Try.f90
theorem df90 : dfunc Try.prog 90 = some ⟨Try.f90, body90⟩ := by kernel_rfl
def A90_1 (v0 v3 v9 v10 v11 : Value) (h : DH) (Z : Value → DH → Prop) : Prop := ∀ a : DA, DA.val a 0 = v0 → DA.val a 3 = v3 → DA.val a 9 = v9 → DA.val a 10 = v10 → DA.val a 11 = v11 → W Try.prog (Cd.bB (Cd.sR (Cd.sL (Cd.sR (Cd.sR body90))))) a h (kont Try.prog [.block 0, .seq (Cd.sR (Cd.sR (Cd.sR body90)))] (Fin Try.prog Try.f90 Z))
def A90_2 (v6 v25 v26 v27 : Value) (h : DH) (Z : Value → DH → Prop) : Prop := ∀ a : DA, DA.val a 6 = v6 → DA.val a 25 = v25 → DA.val a 26 = v26 → DA.val a 27 = v27 → W Try.prog (Cd.bB (Cd.sR (Cd.sL (Cd.sR (Cd.sR (Cd.sR (Cd.sR body90))))))) a h (kont Try.prog [.block 2, .seq (Cd.sR (Cd.sR (Cd.sR (Cd.sR (Cd.sR body90)))))] (Fin Try.prog Try.f90 Z))
theorem R90 {v0 : Value} {h : DH} {Z : Value → DH → Prop} (H : obP (lenS v0) fun v10_1 => A90_1 v0 (Value.int .i64 0) v0 v10_1 (Value.int .i64 0) h Z) : CP Try.prog 90 [v0] h Z := by
  refine CP_of df90 ?_
  refine W_seq ?_
  refine W_plain ?_
  refine VO_5 s_assign ?_
  refine VO_nil ?_
  refine kont_seq ?_
  refine W_seq ?_
  refine W_plain ?_
  refine VO_5 s_assign ?_
  refine VO_nil ?_
  refine kont_seq ?_
  refine W_seq ?_
  refine W_seq ?_
  refine W_plain ?_
  refine VO_5 s_move ?_
  refine VO_1 (s_lenS ud184) H fun v10_1 H => ?_
  refine VO_5 s_move ?_
  refine VO_nil ?_
  refine kont_seq ?_
  refine W_block ?_
  exact H _ rfl rfl rfl rfl rfl

theorem R90_1 {v0 v3 v9 v10 v11 : Value} {h : DH} {Z : Value → DH → Prop} (H : obP (ibin .lss v11 v10) fun v12_2 => obP (asB v12_2) fun b3 => bP b3 (obP (iaS 1 v9 v11) fun v13_4 => obP (ld1 h v13_4) fun v14_5 => obP (lenS v14_5) fun v17_6 => obP (ibin .add v3 v17_6) fun v18_7 => obP (ibin .lss v18_7 (Value.int .i64 0)) fun v20_8 => obP (asB v20_8) fun b9 => bP b9 (False) (obP (ibin .add v11 (Value.int .i64 1)) fun v22_10 => A90_1 v0 v18_7 v9 v10 v22_10 h Z)) (CP Try.prog 119 [(Value.slice none 0 0), v3] h fun v24_11 h12 => obP (lenS v0) fun v26_13 => A90_2 v24_11 v0 v26_13 (Value.int .i64 0) h12 Z)) : A90_1 v0 v3 v9 v10 v11 h Z := by
  intro a e0 e3 e9 e10 e11
  subst e0 e3 e9 e10 e11
  refine W_loop ?_
  refine W_seq ?_
  refine W_plain ?_
  refine VO_1 s_ibin H fun v12_2 H => ?_
  refine VO_nil ?_
  refine kont_seq ?_
  refine W_seq ?_
  refine obP_elim H fun b3 eb3 H => W_cond eb3 (bP_imp H (fun H => ?_) (fun H => ?_))
  · refine W_skip ?_
    refine kont_seq ?_
    refine W_seq ?_
    refine W_block ?_
    refine W_seq ?_
    refine W_plain ?_
    refine VO_1 (s_iaS sl184 el184 sz56) H fun v13_4 H => ?_
    refine VO_1 (s_load1 ag56) H fun v14_5 H => ?_
    refine VO_5 s_assign ?_
    refine VO_nil ?_
    refine kont_seq ?_
    refine W_seq ?_
    refine W_plain ?_
    refine VO_5 s_move ?_
    refine VO_5 s_move ?_
    refine VO_1 (s_lenS ud56) H fun v17_6 H => ?_
    refine VO_1 s_ibin H fun v18_7 H => ?_
    refine VO_5 s_assign ?_
    refine VO_nil ?_
    refine kont_seq ?_
    refine W_seq ?_
    refine W_plain ?_
    refine VO_5 s_move ?_
    refine VO_1 s_ibin H fun v20_8 H => ?_
    refine VO_nil ?_
    refine kont_seq ?_
    refine obP_elim H fun b9 eb9 H => W_cond eb9 (bP_imp H (fun H => ?_) (fun H => ?_))
    · exact False.elim H
    · refine W_skip ?_
      refine kont_block ?_
      refine kont_seq ?_
      refine W_plain ?_
      refine VO_1 s_ibin H fun v22_10 H => ?_
      refine VO_5 s_move ?_
      refine VO_nil ?_
      exact kont_loop (H _ rfl rfl rfl rfl rfl)
  · refine W_exit ?_
    refine kont_xs rfl ?_
    refine kont_xl rfl ?_
    refine kont_block ?_
    refine kont_seq ?_
    refine W_seq ?_
    refine W_plain ?_
    refine VO_5 s_move ?_
    refine VO_4 rfl H fun v24_11 h12 H => ?_
    refine VO_5 s_assign ?_
    refine VO_nil ?_
    refine kont_seq ?_
    refine W_seq ?_
    refine W_seq ?_
    refine W_plain ?_
    refine VO_5 s_move ?_
    refine VO_1 (s_lenS ud184) H fun v26_13 H => ?_
    refine VO_5 s_move ?_
    refine VO_nil ?_
    refine kont_seq ?_
    refine W_block ?_
    exact H _ rfl rfl rfl rfl

theorem R90_2 {v6 v25 v26 v27 : Value} {h : DH} {Z : Value → DH → Prop} (H : obP (ibin .lss v27 v26) fun v28_14 => obP (asB v28_14) fun b15 => bP b15 (obP (iaS 1 v25 v27) fun v29_16 => obP (ld1 h v29_16) fun v30_17 => oh (appS 9 16 1 h v6 v30_17) fun v33_18 h19 => obP (ibin .add v27 (Value.int .i64 1)) fun v34_20 => A90_2 v33_18 v25 v26 v34_20 h19 Z) (Z v6 h)) : A90_2 v6 v25 v26 v27 h Z := by
  intro a e6 e25 e26 e27
  subst e6 e25 e26 e27
  refine W_loop ?_
  refine W_seq ?_
  refine W_plain ?_
  refine VO_1 s_ibin H fun v28_14 H => ?_
  refine VO_nil ?_
  refine kont_seq ?_
  refine W_seq ?_
  refine obP_elim H fun b15 eb15 H => W_cond eb15 (bP_imp H (fun H => ?_) (fun H => ?_))
  · refine W_skip ?_
    refine kont_seq ?_
    refine W_seq ?_
    refine W_block ?_
    refine W_seq ?_
    refine W_plain ?_
    refine VO_1 (s_iaS sl184 el184 sz56) H fun v29_16 H => ?_
    refine VO_1 (s_load1 ag56) H fun v30_17 H => ?_
    refine VO_5 s_assign ?_
    refine VO_nil ?_
    refine kont_seq ?_
    refine W_plain ?_
    refine VO_5 s_move ?_
    refine VO_5 s_move ?_
    refine VO_2 (s_app el56 ud56 sz9 by9 zr9) H fun v33_18 h19 H => ?_
    refine VO_5 s_assign ?_
    refine VO_nil ?_
    refine kont_block ?_
    refine kont_seq ?_
    refine W_plain ?_
    refine VO_1 s_ibin H fun v34_20 H => ?_
    refine VO_5 s_move ?_
    refine VO_nil ?_
    exact kont_loop (H _ rfl rfl rfl rfl)
  · refine W_exit ?_
    refine kont_xs rfl ?_
    refine kont_xl rfl ?_
    refine kont_block ?_
    refine kont_seq ?_
    refine W_seq ?_
    refine W_plain ?_
    refine VO_5 s_move ?_
    refine VO_5 s_assign ?_
    refine VO_nil ?_
    refine kont_seq ?_
    refine W_ret ?_
    exact ⟨rfl, obP_of (dres_mk (lm_cons rfl lm_nil)) H⟩

-- slices.Grow[[]string,string]
noncomputable def body119 : Code := Cd.bO Try.f119
theorem df119 : dfunc Try.prog 119 = some ⟨Try.f119, body119⟩ := by kernel_rfl
def A119_1 (v0 v1 : Value) (h : DH) (Z : Value → DH → Prop) : Prop := ∀ a : DA, DA.val a 0 = v0 → DA.val a 1 = v1 → W Try.prog (Cd.sR (Cd.sR body119)) a h (kont Try.prog [] (Fin Try.prog Try.f119 Z))
theorem R119 {v0 v1 : Value} {h : DH} {Z : Value → DH → Prop} (H : obP (ibin .lss v1 (Value.int .i64 0)) fun v6_1 => obP (asB v6_1) fun b2 => bP b2 (False) (A119_1 v0 v1 h Z)) : CP Try.prog 119 [v0, v1] h Z := by
  refine CP_of df119 ?_
  refine W_seq ?_
  refine W_plain ?_
  refine VO_5 s_assign ?_
  refine VO_nil ?_
  refine kont_seq ?_
  refine W_seq ?_
  refine W_seq ?_
  refine W_plain ?_
  refine VO_5 s_move ?_
  refine VO_1 s_ibin H fun v6_1 H => ?_
  refine VO_nil ?_
  refine kont_seq ?_
  refine obP_elim H fun b2 eb2 H => W_cond eb2 (bP_imp H (fun H => ?_) (fun H => ?_))
  · exact False.elim H
  · refine W_skip ?_
    exact kont_seq (H _ rfl rfl)

theorem R119_1 {v0 v1 : Value} {h : DH} {Z : Value → DH → Prop} (H : obP (capS h v0) fun v10_3 => obP (lenS v0) fun v12_4 => obP (ibin .sub v10_3 v12_4) fun v13_5 => obP (ibin .sub v1 v13_5) fun v14_6 => obP (ibin .gtr v14_6 (Value.int .i64 0)) fun v16_7 => obP (asB v16_7) fun b8 => bP b8 (obP (capS h v0) fun v19_9 => obP (slS 9 1 h v0 none (some v19_9)) fun v20_10 => oh (appI 9 16 1 [(Value.string ⟨#[]⟩)] h v20_10 v14_6) fun v22_11 h12 => obP (lenS v0) fun v24_13 => obP (slS 9 1 h12 v22_11 none (some v24_13)) fun v25_14 => Z v25_14 h12) (Z v0 h)) : A119_1 v0 v1 h Z := by
  intro a e0 e1
  subst e0 e1
  refine W_seq ?_
  refine W_seq ?_
  refine W_plain ?_
  refine VO_5 s_move ?_
  refine VO_5 s_move ?_
  refine VO_1 (s_capS sl56) H fun v10_3 H => ?_
  refine VO_5 s_move ?_
  refine VO_1 (s_lenS ud56) H fun v12_4 H => ?_
  refine VO_1 s_ibin H fun v13_5 H => ?_
  refine VO_1 s_ibin H fun v14_6 H => ?_
  refine VO_5 s_assign ?_
  refine VO_nil ?_
  refine kont_seq ?_
  refine W_seq ?_
  refine W_plain ?_
  refine VO_5 s_move ?_
  refine VO_1 s_ibin H fun v16_7 H => ?_
  refine VO_nil ?_
  refine kont_seq ?_
  refine obP_elim H fun b8 eb8 H => W_cond eb8 (bP_imp H (fun H => ?_) (fun H => ?_))
  · refine W_plain ?_
    refine VO_5 s_move ?_
    refine VO_5 s_move ?_
    refine VO_1 (s_capS sl56) H fun v19_9 H => ?_
    refine VO_1 (s_slS ts56 el56 sz9) H fun v20_10 H => ?_
    refine VO_5 s_move ?_
    refine VO_2 (s_appI el56 ud3 sz9 by9 zr9) H fun v22_11 h12 H => ?_
    refine VO_5 s_move ?_
    refine VO_1 (s_lenS ud56) H fun v24_13 H => ?_
    refine VO_1 (s_slS ts56 el56 sz9) H fun v25_14 H => ?_
    refine VO_5 s_assign ?_
    refine VO_nil ?_
    refine kont_seq ?_
    refine W_seq ?_
    refine W_plain ?_
    refine VO_5 s_move ?_
    refine VO_5 s_assign ?_
    refine VO_nil ?_
    refine kont_seq ?_
    refine W_ret ?_
    exact ⟨rfl, obP_of (dres_mk (lm_cons rfl lm_nil)) H⟩
  · refine W_skip ?_
    refine kont_seq ?_
    refine W_seq ?_
    refine W_plain ?_
    refine VO_5 s_move ?_
    refine VO_5 s_assign ?_
    refine VO_nil ?_
    refine kont_seq ?_
    refine W_ret ?_
    exact ⟨rfl, obP_of (dres_mk (lm_cons rfl lm_nil)) H⟩

-- lemmata/gram.names
noncomputable def body91 : Code := Cd.bO Try.f91
theorem df91 : dfunc Try.prog 91 = some ⟨Try.f91, body91⟩ := by kernel_rfl
theorem R91 {v0 : Value} {h : DH} {Z : Value → DH → Prop} (H : CP Try.prog 120 [v0] h fun v4_1 h2 => obP (gotB v4_1 true) fun w3 => g4 Try.prog w3 121 [(sel w3 v0 undef), (Value.func (.func 122) #[] #[])] h2 fun v7_4 h5 => g1 w3 (bnot v7_4) fun v8_6 => obP (pk v4_1 v8_6 (Value.bool false)) fun v9_7 => Z v9_7 h5) : CP Try.prog 91 [v0] h Z := by
  refine CP_of df91 ?_
  refine W_seq ?_
  refine W_plain ?_
  refine VO_5 s_assign ?_
  refine VO_nil ?_
  refine kont_seq ?_
  refine W_seq ?_
  refine W_plain ?_
  refine VO_5 s_move ?_
  refine VO_4 rfl H fun v4_1 h2 H => ?_
  refine VO_5 s_move ?_
  refine obP_elim H fun w3 ew3 H => ?_
  refine VO_5m rfl ew3 s_move ?_
  refine VO_4g rfl ew3 rfl H fun v7_4 h5 H => ?_
  refine VO_1g rfl ew3 s_not H fun v8_6 H => ?_
  refine VO_1 s_pk H fun v9_7 H => ?_
  refine VO_5 s_assign ?_
  refine VO_nil ?_
  refine kont_seq ?_
  refine W_ret ?_
  exact ⟨rfl, obP_of (dres_mk (lm_cons rfl lm_nil)) H⟩

-- lemmata/gram.unlike[string]
noncomputable def body120 : Code := Cd.bO Try.f120
theorem df120 : dfunc Try.prog 120 = some ⟨Try.f120, body120⟩ := by kernel_rfl
def A120_1 (v3 v7 v8 v9 : Value) (h : DH) (Z : Value → DH → Prop) : Prop := ∀ a : DA, DA.val a 3 = v3 → DA.val a 7 = v7 → DA.val a 8 = v8 → DA.val a 9 = v9 → W Try.prog (Cd.bB (Cd.sR (Cd.sL (Cd.sR (Cd.sR body120))))) a h (kont Try.prog [.block 0, .seq (Cd.sR (Cd.sR (Cd.sR body120)))] (Fin Try.prog Try.f120 Z))
theorem R120 {v0 : Value} {h : DH} {Z : Value → DH → Prop} (H : oh (mkM h) fun v6_1 h2 => obP (lenS v0) fun v8_3 => A120_1 v6_1 v0 v8_3 (Value.int .i64 0) h2 Z) : CP Try.prog 120 [v0] h Z := by
  refine CP_of df120 ?_
  refine W_seq ?_
  refine W_plain ?_
  refine VO_5 s_assign ?_
  refine VO_nil ?_
  refine kont_seq ?_
  refine W_seq ?_
  refine W_plain ?_
  refine VO_2 s_mkM H fun v6_1 h2 H => ?_
  refine VO_5 s_assign ?_
  refine VO_nil ?_
  refine kont_seq ?_
  refine W_seq ?_
  refine W_seq ?_
  refine W_plain ?_
  refine VO_5 s_move ?_
  refine VO_1 (s_lenS ud56) H fun v8_3 H => ?_
  refine VO_5 s_move ?_
  refine VO_nil ?_
  refine kont_seq ?_
  refine W_block ?_
  exact H _ rfl rfl rfl rfl

theorem R120_1 {v3 v7 v8 v9 : Value} {h : DH} {Z : Value → DH → Prop} (H : obP (ibin .lss v9 v8) fun v10_4 => obP (asB v10_4) fun b5 => bP b5 (obP (iaS 1 v7 v9) fun v11_6 => obP (ld1 h v11_6) fun v12_7 => obP (dlookup Try.prog h 205 v3 v12_7 false) fun v15_8 => obP (asB v15_8) fun b9 => bP b9 (Z (Value.bool false) h) (obP (dmapUpdate Try.prog h 205 v3 v12_7 (Value.bool true)) fun h10 => obP (ibin .add v9 (Value.int .i64 1)) fun v18_11 => A120_1 v3 v7 v8 v18_11 h10 Z)) (Z (Value.bool true) h)) : A120_1 v3 v7 v8 v9 h Z := by
  intro a e3 e7 e8 e9
  subst e3 e7 e8 e9
  refine W_loop ?_
  refine W_seq ?_
  refine W_plain ?_
  refine VO_1 s_ibin H fun v10_4 H => ?_
  refine VO_nil ?_
  refine kont_seq ?_
  refine W_seq ?_
  refine obP_elim H fun b5 eb5 H => W_cond eb5 (bP_imp H (fun H => ?_) (fun H => ?_))
  · refine W_skip ?_
    refine kont_seq ?_
    refine W_seq ?_
    refine W_block ?_
    refine W_seq ?_
    refine W_plain ?_
    refine VO_1 (s_iaS sl56 el56 sz9) H fun v11_6 H => ?_
    refine VO_1 (s_load1 ag9) H fun v12_7 H => ?_
    refine VO_5 s_assign ?_
    refine VO_nil ?_
    refine kont_seq ?_
    refine W_seq ?_
    refine W_seq ?_
    refine W_plain ?_
    refine VO_5 s_move ?_
    refine VO_5 s_move ?_
    refine VO_1 s_lookup H fun v15_8 H => ?_
    refine VO_nil ?_
    refine kont_seq ?_
    refine obP_elim H fun b9 eb9 H => W_cond eb9 (bP_imp H (fun H => ?_) (fun H => ?_))
    · refine W_seq ?_
      refine W_plain ?_
      refine VO_5 s_assign ?_
      refine VO_nil ?_
      refine kont_seq ?_
      refine W_ret ?_
      refine kont_xs rfl ?_
      refine kont_block ?_
      refine kont_xs rfl ?_
      refine kont_xl rfl ?_
      refine kont_block ?_
      refine kont_xs rfl ?_
      exact ⟨rfl, obP_of (dres_mk (lm_cons rfl lm_nil)) H⟩
    · refine W_skip ?_
      refine kont_seq ?_
      refine W_plain ?_
      refine VO_5 s_move ?_
      refine VO_5 s_move ?_
      refine VO_3 s_mapUpdate H fun h10 H => ?_
      refine VO_nil ?_
      refine kont_block ?_
      refine kont_seq ?_
      refine W_plain ?_
      refine VO_1 s_ibin H fun v18_11 H => ?_
      refine VO_5 s_move ?_
      refine VO_nil ?_
      exact kont_loop (H _ rfl rfl rfl rfl)
  · refine W_exit ?_
    refine kont_xs rfl ?_
    refine kont_xl rfl ?_
    refine kont_block ?_
    refine kont_seq ?_
    refine W_seq ?_
    refine W_plain ?_
    refine VO_5 s_assign ?_
    refine VO_nil ?_
    refine kont_seq ?_
    refine W_ret ?_
    exact ⟨rfl, obP_of (dres_mk (lm_cons rfl lm_nil)) H⟩

-- slices.ContainsFunc[[]string,string]
noncomputable def body121 : Code := Cd.bO Try.f121
theorem df121 : dfunc Try.prog 121 = some ⟨Try.f121, body121⟩ := by kernel_rfl
theorem R121 {v0 v1 : Value} {h : DH} {Z : Value → DH → Prop} (H : CP Try.prog 136 [v0, v1] h fun v7_1 h2 => obP (ibin .geq v7_1 (Value.int .i64 0)) fun v8_3 => Z v8_3 h2) : CP Try.prog 121 [v0, v1] h Z := by
  refine CP_of df121 ?_
  refine W_seq ?_
  refine W_plain ?_
  refine VO_5 s_assign ?_
  refine VO_nil ?_
  refine kont_seq ?_
  refine W_seq ?_
  refine W_plain ?_
  refine VO_5 s_move ?_
  refine VO_5 s_move ?_
  refine VO_4 rfl H fun v7_1 h2 H => ?_
  refine VO_1 s_ibin H fun v8_3 H => ?_
  refine VO_5 s_assign ?_
  refine VO_nil ?_
  refine kont_seq ?_
  refine W_ret ?_
  exact ⟨rfl, obP_of (dres_mk (lm_cons rfl lm_nil)) H⟩

-- slices.IndexFunc[[]string,string]
noncomputable def body136 : Code := Cd.bO Try.f136
theorem df136 : dfunc Try.prog 136 = some ⟨Try.f136, body136⟩ := by kernel_rfl
def A136_1 (v0 v1 v7 v8 : Value) (h : DH) (Z : Value → DH → Prop) : Prop := ∀ a : DA, DA.val a 0 = v0 → DA.val a 1 = v1 → DA.val a 7 = v7 → DA.val a 8 = v8 → W Try.prog (Cd.bB (Cd.sR (Cd.sL (Cd.sR body136)))) a h (kont Try.prog [.block 0, .seq (Cd.sR (Cd.sR body136))] (Fin Try.prog Try.f136 Z))
theorem R136 {v0 v1 : Value} {h : DH} {Z : Value → DH → Prop} (H : obP (lenS v0) fun v7_1 => A136_1 v0 v1 v7_1 (Value.int .i64 0) h Z) : CP Try.prog 136 [v0, v1] h Z := by
  refine CP_of df136 ?_
  refine W_seq ?_
  refine W_plain ?_
  refine VO_5 s_assign ?_
  refine VO_nil ?_
  refine kont_seq ?_
  refine W_seq ?_
  refine W_seq ?_
  refine W_plain ?_
  refine VO_5 s_move ?_
  refine VO_1 (s_lenS ud56) H fun v7_1 H => ?_
  refine VO_5 s_move ?_
  refine VO_nil ?_
  refine kont_seq ?_
  refine W_block ?_
  exact H _ rfl rfl rfl rfl

theorem R136_1 {v0 v1 v7 v8 : Value} {h : DH} {Z : Value → DH → Prop} (H : obP (ibin .lss v8 v7) fun v9_2 => obP (asB v9_2) fun b3 => bP b3 (obP (iaS 1 v0 v8) fun v14_4 => obP (ld1 h v14_4) fun v15_5 => obP (asFunc v1) fun g7 => CP Try.prog g7.1 (lapp g7.2.1 (lapp [v15_5] g7.2.2)) h fun v16_6 h7 => obP (asB v16_6) fun b8 => bP b8 (Z v8 h7) (obP (ibin .add v8 (Value.int .i64 1)) fun v18_9 => A136_1 v0 v1 v7 v18_9 h7 Z)) (Z (Value.int .i64 (-1)) h)) : A136_1 v0 v1 v7 v8 h Z := by
  intro a e0 e1 e7 e8
  subst e0 e1 e7 e8
  refine W_loop ?_
  refine W_seq ?_
  refine W_plain ?_
  refine VO_1 s_ibin H fun v9_2 H => ?_
  refine VO_nil ?_
  refine kont_seq ?_
  refine W_seq ?_
  refine obP_elim H fun b3 eb3 H => W_cond eb3 (bP_imp H (fun H => ?_) (fun H => ?_))
  · refine W_skip ?_
    refine kont_seq ?_
    refine W_seq ?_
    refine W_block ?_
    refine W_seq ?_
    refine W_plain ?_
    refine VO_5 s_move ?_
    refine VO_5 s_assign ?_
    refine VO_nil ?_
    refine kont_seq ?_
    refine W_seq ?_
    refine W_plain ?_
    refine VO_5 s_move ?_
    refine VO_5 s_move ?_
    refine VO_5 s_move ?_
    refine VO_1 (s_iaS sl56 el56 sz9) H fun v14_4 H => ?_
    refine VO_1 (s_load1 ag9) H fun v15_5 H => ?_
    refine VO_4v H fun v16_6 h7 H => ?_
    refine VO_nil ?_
    refine kont_seq ?_
    refine obP_elim H fun b8 eb8 H => W_cond eb8 (bP_imp H (fun H => ?_) (fun H => ?_))
    · refine W_seq ?_
      refine W_plain ?_
      refine VO_5 s_move ?_
      refine VO_5 s_assign ?_
      refine VO_nil ?_
      refine kont_seq ?_
      refine W_ret ?_
      refine kont_block ?_
      refine kont_xs rfl ?_
      refine kont_xl rfl ?_
      refine kont_block ?_
      refine kont_xs rfl ?_
      exact ⟨rfl, obP_of (dres_mk (lm_cons rfl lm_nil)) H⟩
    · refine W_skip ?_
      refine kont_block ?_
      refine kont_seq ?_
      refine W_plain ?_
      refine VO_1 s_ibin H fun v18_9 H => ?_
      refine VO_5 s_move ?_
      refine VO_nil ?_
      exact kont_loop (H _ rfl rfl rfl rfl)
  · refine W_exit ?_
    refine kont_xs rfl ?_
    refine kont_xl rfl ?_
    refine kont_block ?_
    refine kont_seq ?_
    refine W_seq ?_
    refine W_plain ?_
    refine VO_5 s_assign ?_
    refine VO_nil ?_
    refine kont_seq ?_
    refine W_ret ?_
    exact ⟨rfl, obP_of (dres_mk (lm_cons rfl lm_nil)) H⟩

-- lemmata/gram.names$1
noncomputable def body122 : Code := Cd.bO Try.f122
theorem df122 : dfunc Try.prog 122 = some ⟨Try.f122, body122⟩ := by kernel_rfl
theorem R122 {v0 : Value} {h : DH} {Z : Value → DH → Prop} (H : CP Try.prog 123 [v0] h fun v4_1 h2 => obP (bnot v4_1) fun v5_3 => Z v5_3 h2) : CP Try.prog 122 [v0] h Z := by
  refine CP_of df122 ?_
  refine W_seq ?_
  refine W_plain ?_
  refine VO_5 s_assign ?_
  refine VO_nil ?_
  refine kont_seq ?_
  refine W_seq ?_
  refine W_plain ?_
  refine VO_5 s_move ?_
  refine VO_4 rfl H fun v4_1 h2 H => ?_
  refine VO_1 s_not H fun v5_3 H => ?_
  refine VO_5 s_assign ?_
  refine VO_nil ?_
  refine kont_seq ?_
  refine W_ret ?_
  exact ⟨rfl, obP_of (dres_mk (lm_cons rfl lm_nil)) H⟩

-- lemmata/gram.name
noncomputable def body123 : Code := Cd.bO Try.f123
theorem df123 : dfunc Try.prog 123 = some ⟨Try.f123, body123⟩ := by kernel_rfl
def A123_1 (v0 v14 v15 : Value) (h : DH) (Z : Value → DH → Prop) : Prop := ∀ a : DA, DA.val a 0 = v0 → DA.val a 14 = v14 → DA.val a 15 = v15 → W Try.prog (Cd.bB (Cd.sR (Cd.sL (Cd.sR (Cd.sR body123))))) a h (kont Try.prog [.block 0, .seq (Cd.sR (Cd.sR (Cd.sR body123)))] (Fin Try.prog Try.f123 Z))
theorem R123 {v0 : Value} {h : DH} {Z : Value → DH → Prop} (H : obP (lenStr v0) fun v6_1 => obP (ibin .lss v6_1 (Value.int .i64 1)) fun v7_2 => obP (gotB v7_2 false) fun w3 => g1 w3 (lenStr (sel w3 v0 undef)) fun v10_4 => g1 w3 (ibin .gtr v10_4 (Value.int .i64 8)) fun v11_5 => obP (pk v7_2 (Value.bool true) v11_5) fun v12_6 => obP (asB v12_6) fun b7 => bP b7 (Z (Value.bool false) h) (obP (lenStr v0) fun v14_8 => A123_1 v0 v14_8 (Value.int .i64 0) h Z)) : CP Try.prog 123 [v0] h Z := by
  refine CP_of df123 ?_
  refine W_seq ?_
  refine W_plain ?_
  refine VO_5 s_assign ?_
  refine VO_nil ?_
  refine kont_seq ?_
  refine W_seq ?_
  refine W_seq ?_
  refine W_plain ?_
  refine VO_5 s_move ?_
  refine VO_1 (s_lenStr ud9) H fun v6_1 H => ?_
  refine VO_1 s_ibin H fun v7_2 H => ?_
  refine VO_5 s_move ?_
  refine obP_elim H fun w3 ew3 H => ?_
  refine VO_5m rfl ew3 s_move ?_
  refine VO_1g rfl ew3 (s_lenStr ud9) H fun v10_4 H => ?_
  refine VO_1g rfl ew3 s_ibin H fun v11_5 H => ?_
  refine VO_1 s_pk H fun v12_6 H => ?_
  refine VO_nil ?_
  refine kont_seq ?_
  refine obP_elim H fun b7 eb7 H => W_cond eb7 (bP_imp H (fun H => ?_) (fun H => ?_))
  · refine W_seq ?_
    refine W_plain ?_
    refine VO_5 s_assign ?_
    refine VO_nil ?_
    refine kont_seq ?_
    refine W_ret ?_
    refine kont_xs rfl ?_
    exact ⟨rfl, obP_of (dres_mk (lm_cons rfl lm_nil)) H⟩
  · refine W_skip ?_
    refine kont_seq ?_
    refine W_seq ?_
    refine W_seq ?_
    refine W_plain ?_
    refine VO_5 s_move ?_
    refine VO_1 (s_lenStr ud9) H fun v14_8 H => ?_
    refine VO_5 s_move ?_
    refine VO_nil ?_
    refine kont_seq ?_
    refine W_block ?_
    exact H _ rfl rfl rfl

theorem R123_1 {v0 v14 v15 : Value} {h : DH} {Z : Value → DH → Prop} (H : obP (ibin .lss v15 v14) fun v16_9 => obP (asB v16_9) fun b10 => bP b10 (obP (ixStr v0 v15) fun v20_11 => obP (ibin .geq v20_11 (Value.int .u8 97)) fun v21_12 => obP (gotB v21_12 true) fun w13 => g1 w13 (ixStr (sel w13 v0 undef) (sel w13 v15 undef)) fun v25_14 => g1 w13 (ibin .leq v25_14 (Value.int .u8 122)) fun v26_15 => obP (pk v21_12 v26_15 (Value.bool false)) fun v27_16 => obP (bnot v27_16) fun v29_17 => obP (gotB v29_17 true) fun w18 => g1 w18 (ibin .eql (sel w18 v15 undef) (Value.int .i64 0)) fun v32_19 => obP (gotB (sel w18 v32_19 undef) false) fun w20 => g1 w20 (ixStr (sel w20 v0 undef) (sel w20 v15 undef)) fun v36_21 => g1 w20 (ibin .lss v36_21 (Value.int .u8 48)) fun v37_22 => g1 w18 (pk (sel w18 v32_19 undef) (Value.bool true) v37_22) fun v38_23 => obP (gotB (sel w18 v38_23 undef) false) fun w24 => g1 w24 (ixStr (sel w24 v0 undef) (sel w24 v15 undef)) fun v42_25 => g1 w24 (ibin .gtr v42_25 (Value.int .u8 57)) fun v43_26 => g1 w18 (pk (sel w18 v38_23 undef) (Value.bool true) v43_26) fun v44_27 => obP (pk v29_17 v44_27 (Value.bool false)) fun v45_28 => obP (asB v45_28) fun b29 => bP b29 (Z (Value.bool false) h) (obP (ibin .add v15 (Value.int .i64 1)) fun v46_30 => A123_1 v0 v14 v46_30 h Z)) (Z (Value.bool true) h)) : A123_1 v0 v14 v15 h Z := by
  intro a e0 e14 e15
  subst e0 e14 e15
  refine W_loop ?_
  refine W_seq ?_
  refine W_plain ?_
  refine VO_1 s_ibin H fun v16_9 H => ?_
  refine VO_nil ?_
  refine kont_seq ?_
  refine W_seq ?_
  refine obP_elim H fun b10 eb10 H => W_cond eb10 (bP_imp H (fun H => ?_) (fun H => ?_))
  · refine W_skip ?_
    refine kont_seq ?_
    refine W_seq ?_
    refine W_block ?_
    refine W_seq ?_
    refine W_plain ?_
    refine VO_5 s_move ?_
    refine VO_5 s_assign ?_
    refine VO_nil ?_
    refine kont_seq ?_
    refine W_seq ?_
    refine W_plain ?_
    refine VO_5 s_move ?_
    refine VO_5 s_move ?_
    refine VO_1 (s_ixStr ts9) H fun v20_11 H => ?_
    refine VO_1 s_ibin H fun v21_12 H => ?_
    refine VO_5 s_move ?_
    refine obP_elim H fun w13 ew13 H => ?_
    refine VO_5m rfl ew13 s_move ?_
    refine VO_5m rfl ew13 s_move ?_
    refine VO_1g rfl ew13 (s_ixStr ts9) H fun v25_14 H => ?_
    refine VO_1g rfl ew13 s_ibin H fun v26_15 H => ?_
    refine VO_1 s_pk H fun v27_16 H => ?_
    refine VO_5 s_assign ?_
    refine VO_nil ?_
    refine kont_seq ?_
    refine W_seq ?_
    refine W_plain ?_
    refine VO_5 s_move ?_
    refine VO_1 s_not H fun v29_17 H => ?_
    refine VO_5 s_move ?_
    refine obP_elim H fun w18 ew18 H => ?_
    refine VO_5m rfl ew18 s_move ?_
    refine VO_1g rfl ew18 s_ibin H fun v32_19 H => ?_
    refine VO_5m rfl ew18 s_move ?_
    refine obP_elim H fun w20 ew20 H => ?_
    refine VO_5m rfl ew20 s_move ?_
    refine VO_5m rfl ew20 s_move ?_
    refine VO_1g rfl ew20 (s_ixStr ts9) H fun v36_21 H => ?_
    refine VO_1g rfl ew20 s_ibin H fun v37_22 H => ?_
    refine VO_1g rfl ew18 s_pk H fun v38_23 H => ?_
    refine VO_5m rfl ew18 s_move ?_
    refine obP_elim H fun w24 ew24 H => ?_
    refine VO_5m rfl ew24 s_move ?_
    refine VO_5m rfl ew24 s_move ?_
    refine VO_1g rfl ew24 (s_ixStr ts9) H fun v42_25 H => ?_
    refine VO_1g rfl ew24 s_ibin H fun v43_26 H => ?_
    refine VO_1g rfl ew18 s_pk H fun v44_27 H => ?_
    refine VO_1 s_pk H fun v45_28 H => ?_
    refine VO_nil ?_
    refine kont_seq ?_
    refine obP_elim H fun b29 eb29 H => W_cond eb29 (bP_imp H (fun H => ?_) (fun H => ?_))
    · refine W_seq ?_
      refine W_plain ?_
      refine VO_5 s_assign ?_
      refine VO_nil ?_
      refine kont_seq ?_
      refine W_ret ?_
      refine kont_block ?_
      refine kont_xs rfl ?_
      refine kont_xl rfl ?_
      refine kont_block ?_
      refine kont_xs rfl ?_
      exact ⟨rfl, obP_of (dres_mk (lm_cons rfl lm_nil)) H⟩
    · refine W_skip ?_
      refine kont_block ?_
      refine kont_seq ?_
      refine W_plain ?_
      refine VO_1 s_ibin H fun v46_30 H => ?_
      refine VO_5 s_move ?_
      refine VO_nil ?_
      exact kont_loop (H _ rfl rfl rfl)
  · refine W_exit ?_
    refine kont_xs rfl ?_
    refine kont_xl rfl ?_
    refine kont_block ?_
    refine kont_seq ?_
    refine W_seq ?_
    refine W_plain ?_
    refine VO_5 s_assign ?_
    refine VO_nil ?_
    refine kont_seq ?_
    refine W_ret ?_
    exact ⟨rfl, obP_of (dres_mk (lm_cons rfl lm_nil)) H⟩

-- slices.ContainsFunc[[]lemmata/api.Prod,lemmata/api.Prod]
noncomputable def body92 : Code := Cd.bO Try.f92
theorem df92 : dfunc Try.prog 92 = some ⟨Try.f92, body92⟩ := by kernel_rfl
theorem R92 {v0 v1 : Value} {h : DH} {Z : Value → DH → Prop} (H : CP Try.prog 124 [v0, v1] h fun v7_1 h2 => obP (ibin .geq v7_1 (Value.int .i64 0)) fun v8_3 => Z v8_3 h2) : CP Try.prog 92 [v0, v1] h Z := by
  refine CP_of df92 ?_
  refine W_seq ?_
  refine W_plain ?_
  refine VO_5 s_assign ?_
  refine VO_nil ?_
  refine kont_seq ?_
  refine W_seq ?_
  refine W_plain ?_
  refine VO_5 s_move ?_
  refine VO_5 s_move ?_
  refine VO_4 rfl H fun v7_1 h2 H => ?_
  refine VO_1 s_ibin H fun v8_3 H => ?_
  refine VO_5 s_assign ?_
  refine VO_nil ?_
  refine kont_seq ?_
  refine W_ret ?_
  exact ⟨rfl, obP_of (dres_mk (lm_cons rfl lm_nil)) H⟩

-- slices.IndexFunc[[]lemmata/api.Prod,lemmata/api.Prod]
noncomputable def body124 : Code := Cd.bO Try.f124
theorem df124 : dfunc Try.prog 124 = some ⟨Try.f124, body124⟩ := by kernel_rfl
def A124_1 (v0 v1 v7 v8 : Value) (h : DH) (Z : Value → DH → Prop) : Prop := ∀ a : DA, DA.val a 0 = v0 → DA.val a 1 = v1 → DA.val a 7 = v7 → DA.val a 8 = v8 → W Try.prog (Cd.bB (Cd.sR (Cd.sL (Cd.sR body124)))) a h (kont Try.prog [.block 0, .seq (Cd.sR (Cd.sR body124))] (Fin Try.prog Try.f124 Z))
theorem R124 {v0 v1 : Value} {h : DH} {Z : Value → DH → Prop} (H : obP (lenS v0) fun v7_1 => A124_1 v0 v1 v7_1 (Value.int .i64 0) h Z) : CP Try.prog 124 [v0, v1] h Z := by
  refine CP_of df124 ?_
  refine W_seq ?_
  refine W_plain ?_
  refine VO_5 s_assign ?_
  refine VO_nil ?_
  refine kont_seq ?_
  refine W_seq ?_
  refine W_seq ?_
  refine W_plain ?_
  refine VO_5 s_move ?_
  refine VO_1 (s_lenS ud26) H fun v7_1 H => ?_
  refine VO_5 s_move ?_
  refine VO_nil ?_
  refine kont_seq ?_
  refine W_block ?_
  exact H _ rfl rfl rfl rfl

theorem R124_1 {v0 v1 v7 v8 : Value} {h : DH} {Z : Value → DH → Prop} (H : obP (ibin .lss v8 v7) fun v9_2 => obP (asB v9_2) fun b3 => bP b3 (obP (iaS 3 v0 v8) fun v14_4 => obP (ldN 3 h v14_4) fun v15_5 => obP (asFunc v1) fun g7 => CP Try.prog g7.1 (lapp g7.2.1 (lapp [v15_5] g7.2.2)) h fun v16_6 h7 => obP (asB v16_6) fun b8 => bP b8 (Z v8 h7) (obP (ibin .add v8 (Value.int .i64 1)) fun v18_9 => A124_1 v0 v1 v7 v18_9 h7 Z)) (Z (Value.int .i64 (-1)) h)) : A124_1 v0 v1 v7 v8 h Z := by
  intro a e0 e1 e7 e8
  subst e0 e1 e7 e8
  refine W_loop ?_
  refine W_seq ?_
  refine W_plain ?_
  refine VO_1 s_ibin H fun v9_2 H => ?_
  refine VO_nil ?_
  refine kont_seq ?_
  refine W_seq ?_
  refine obP_elim H fun b3 eb3 H => W_cond eb3 (bP_imp H (fun H => ?_) (fun H => ?_))
  · refine W_skip ?_
    refine kont_seq ?_
    refine W_seq ?_
    refine W_block ?_
    refine W_seq ?_
    refine W_plain ?_
    refine VO_5 s_move ?_
    refine VO_5 s_assign ?_
    refine VO_nil ?_
    refine kont_seq ?_
    refine W_seq ?_
    refine W_plain ?_
    refine VO_5 s_move ?_
    refine VO_5 s_move ?_
    refine VO_5 s_move ?_
    refine VO_1 (s_iaS sl26 el26 sz37) H fun v14_4 H => ?_
    refine VO_1 (s_loadN ag37 sz37) H fun v15_5 H => ?_
    refine VO_4v H fun v16_6 h7 H => ?_
    refine VO_nil ?_
    refine kont_seq ?_
    refine obP_elim H fun b8 eb8 H => W_cond eb8 (bP_imp H (fun H => ?_) (fun H => ?_))
    · refine W_seq ?_
      refine W_plain ?_
      refine VO_5 s_move ?_
      refine VO_5 s_assign ?_
      refine VO_nil ?_
      refine kont_seq ?_
      refine W_ret ?_
      refine kont_block ?_
      refine kont_xs rfl ?_
      refine kont_xl rfl ?_
      refine kont_block ?_
      refine kont_xs rfl ?_
      exact ⟨rfl, obP_of (dres_mk (lm_cons rfl lm_nil)) H⟩
    · refine W_skip ?_
      refine kont_block ?_
      refine kont_seq ?_
      refine W_plain ?_
      refine VO_1 s_ibin H fun v18_9 H => ?_
      refine VO_5 s_move ?_
      refine VO_nil ?_
      exact kont_loop (H _ rfl rfl rfl rfl)
  · refine W_exit ?_
    refine kont_xs rfl ?_
    refine kont_xl rfl ?_
    refine kont_block ?_
    refine kont_seq ?_
    refine W_seq ?_
    refine W_plain ?_
    refine VO_5 s_assign ?_
    refine VO_nil ?_
    refine kont_seq ?_
    refine W_ret ?_
    exact ⟨rfl, obP_of (dres_mk (lm_cons rfl lm_nil)) H⟩

-- lemmata/gram.May$1
noncomputable def body93 : Code := Cd.bO Try.f93
theorem df93 : dfunc Try.prog 93 = some ⟨Try.f93, body93⟩ := by kernel_rfl
theorem R93 {v0 v1 : Value} {h : DH} {Z : Value → DH → Prop} (H : oh (bx 37 h v0) fun v2_1 h2 => obP (ldN 3 h2 v1) fun v4_3 => obP (ldN 3 h2 v2_1) fun v5_4 => CP Try.prog 94 [v4_3, v5_4] h2 fun v6_5 h6 => obP (bnot v6_5) fun v7_7 => Z v7_7 h6) : CP Try.prog 93 [v0, v1] h Z := by
  refine CP_of df93 ?_
  refine W_seq ?_
  refine W_plain ?_
  refine VO_2 s_box H fun v2_1 h2 H => ?_
  refine VO_5 s_assign ?_
  refine VO_nil ?_
  refine kont_seq ?_
  refine W_seq ?_
  refine W_plain ?_
  refine VO_1 (s_loadN ag28 sz28) H fun v4_3 H => ?_
  refine VO_1 (s_loadN ag37 sz37) H fun v5_4 H => ?_
  refine VO_4 rfl H fun v6_5 h6 H => ?_
  refine VO_1 s_not H fun v7_7 H => ?_
  refine VO_5 s_assign ?_
  refine VO_nil ?_
  refine kont_seq ?_
  refine W_ret ?_
  exact ⟨rfl, obP_of (dres_mk (lm_cons rfl lm_nil)) H⟩

-- lemmata/gram.prod
noncomputable def body94 : Code := Cd.bO Try.f94
theorem df94 : dfunc Try.prog 94 = some ⟨Try.f94, body94⟩ := by kernel_rfl
theorem R94 {v0 v1 : Value} {h : DH} {Z : Value → DH → Prop} (H : oh (bx 28 h v0) fun v2_1 h2 => oh (bx 37 h2 v1) fun v3_3 h4 => obP (fa 0 v3_3) fun v5_5 => obP (ld1 h4 v5_5) fun v6_6 => obP (ibin .geq v6_6 (Value.int .i64 0)) fun v7_7 => obP (gotB v7_7 true) fun w8 => g1 w8 (fa 0 v3_3) fun v9_9 => g1 w8 (ld1 h4 v9_9) fun v10_10 => g1 w8 (fa 1 v2_1) fun v11_11 => g1 w8 (ld1 h4 v11_11) fun v12_12 => g1 w8 (lenS v12_12) fun v13_13 => g1 w8 (ibin .lss v10_10 v13_13) fun v14_14 => obP (pk v7_7 v14_14 (Value.bool false)) fun v15_15 => obP (gotB v15_15 true) fun w16 => g1 w16 (fa 1 v3_3) fun v17_17 => g1 w16 (ld1 h4 v17_17) fun v18_18 => g1 w16 (lenS v18_18) fun v19_19 => g1 w16 (ibin .leq v19_19 (Value.int .i64 5)) fun v20_20 => obP (pk v15_15 v20_20 (Value.bool false)) fun v21_21 => obP (gotB v21_21 true) fun w22 => g1 w22 (fa 1 v3_3) fun v23_23 => g1 w22 (ld1 h4 v23_23) fun v24_24 => g4 Try.prog w22 75 [v24_24, (sel w22 (Value.func (.func 125) ⟨[]⟩ ⟨[v2_1]⟩) undef)] h4 fun v26_25 h26 => g1 w22 (bnot v26_25) fun v27_27 => obP (pk v21_21 v27_27 (Value.bool false)) fun v28_28 => Z v28_28 h26) : CP Try.prog 94 [v0, v1] h Z := by
  refine CP_of df94 ?_
  refine W_seq ?_
  refine W_plain ?_
  refine VO_2 s_box H fun v2_1 h2 H => ?_
  refine VO_2 s_box H fun v3_3 h4 H => ?_
  refine VO_5 s_assign ?_
  refine VO_nil ?_
  refine kont_seq ?_
  refine W_seq ?_
  refine W_plain ?_
  refine VO_1 (s_fa tf37_0 rfl) H fun v5_5 H => ?_
  refine VO_1 (s_load1 ag3) H fun v6_6 H => ?_
  refine VO_1 s_ibin H fun v7_7 H => ?_
  refine VO_5 s_move ?_
  refine obP_elim H fun w8 ew8 H => ?_
  refine VO_1g rfl ew8 (s_fa tf37_0 rfl) H fun v9_9 H => ?_
  refine VO_1g rfl ew8 (s_load1 ag3) H fun v10_10 H => ?_
  refine VO_1g rfl ew8 (s_fa tf28_1 rfl) H fun v11_11 H => ?_
  refine VO_1g rfl ew8 (s_load1 ag25) H fun v12_12 H => ?_
  refine VO_1g rfl ew8 (s_lenS ud25) H fun v13_13 H => ?_
  refine VO_1g rfl ew8 s_ibin H fun v14_14 H => ?_
  refine VO_1 s_pk H fun v15_15 H => ?_
  refine VO_5 s_move ?_
  refine obP_elim H fun w16 ew16 H => ?_
  refine VO_1g rfl ew16 (s_fa tf37_1 rfl) H fun v17_17 H => ?_
  refine VO_1g rfl ew16 (s_load1 ag34) H fun v18_18 H => ?_
  refine VO_1g rfl ew16 (s_lenS ud34) H fun v19_19 H => ?_
  refine VO_1g rfl ew16 s_ibin H fun v20_20 H => ?_
  refine VO_1 s_pk H fun v21_21 H => ?_
  refine VO_5 s_move ?_
  refine obP_elim H fun w22 ew22 H => ?_
  refine VO_1g rfl ew22 (s_fa tf37_1 rfl) H fun v23_23 H => ?_
  refine VO_1g rfl ew22 (s_load1 ag34) H fun v24_24 H => ?_
  refine VO_5m rfl ew22 s_makeFunc ?_
  refine VO_4g rfl ew22 rfl H fun v26_25 h26 H => ?_
  refine VO_1g rfl ew22 s_not H fun v27_27 H => ?_
  refine VO_1 s_pk H fun v28_28 H => ?_
  refine VO_5 s_assign ?_
  refine VO_nil ?_
  refine kont_seq ?_
  refine W_ret ?_
  exact ⟨rfl, obP_of (dres_mk (lm_cons rfl lm_nil)) H⟩

-- slices.ContainsFunc[[]lemmata/api.Sym,lemmata/api.Sym]
noncomputable def body75 : Code := Cd.bO Try.f75
theorem df75 : dfunc Try.prog 75 = some ⟨Try.f75, body75⟩ := by kernel_rfl
theorem R75 {v0 v1 : Value} {h : DH} {Z : Value → DH → Prop} (H : CP Try.prog 116 [v0, v1] h fun v7_1 h2 => obP (ibin .geq v7_1 (Value.int .i64 0)) fun v8_3 => Z v8_3 h2) : CP Try.prog 75 [v0, v1] h Z := by
  refine CP_of df75 ?_
  refine W_seq ?_
  refine W_plain ?_
  refine VO_5 s_assign ?_
  refine VO_nil ?_
  refine kont_seq ?_
  refine W_seq ?_
  refine W_plain ?_
  refine VO_5 s_move ?_
  refine VO_5 s_move ?_
  refine VO_4 rfl H fun v7_1 h2 H => ?_
  refine VO_1 s_ibin H fun v8_3 H => ?_
  refine VO_5 s_assign ?_
  refine VO_nil ?_
  refine kont_seq ?_
  refine W_ret ?_
  exact ⟨rfl, obP_of (dres_mk (lm_cons rfl lm_nil)) H⟩

-- slices.IndexFunc[[]lemmata/api.Sym,lemmata/api.Sym]
noncomputable def body116 : Code := Cd.bO Try.f116
theorem df116 : dfunc Try.prog 116 = some ⟨Try.f116, body116⟩ := by kernel_rfl
def A116_1 (v0 v1 v7 v8 : Value) (h : DH) (Z : Value → DH → Prop) : Prop := ∀ a : DA, DA.val a 0 = v0 → DA.val a 1 = v1 → DA.val a 7 = v7 → DA.val a 8 = v8 → W Try.prog (Cd.bB (Cd.sR (Cd.sL (Cd.sR body116)))) a h (kont Try.prog [.block 0, .seq (Cd.sR (Cd.sR body116))] (Fin Try.prog Try.f116 Z))
theorem R116 {v0 v1 : Value} {h : DH} {Z : Value → DH → Prop} (H : obP (lenS v0) fun v7_1 => A116_1 v0 v1 v7_1 (Value.int .i64 0) h Z) : CP Try.prog 116 [v0, v1] h Z := by
  refine CP_of df116 ?_
  refine W_seq ?_
  refine W_plain ?_
  refine VO_5 s_assign ?_
  refine VO_nil ?_
  refine kont_seq ?_
  refine W_seq ?_
  refine W_seq ?_
  refine W_plain ?_
  refine VO_5 s_move ?_
  refine VO_1 (s_lenS ud34) H fun v7_1 H => ?_
  refine VO_5 s_move ?_
  refine VO_nil ?_
  refine kont_seq ?_
  refine W_block ?_
  exact H _ rfl rfl rfl rfl

theorem R116_1 {v0 v1 v7 v8 : Value} {h : DH} {Z : Value → DH → Prop} (H : obP (ibin .lss v8 v7) fun v9_2 => obP (asB v9_2) fun b3 => bP b3 (obP (iaS 2 v0 v8) fun v14_4 => obP (ldN 2 h v14_4) fun v15_5 => obP (asFunc v1) fun g7 => CP Try.prog g7.1 (lapp g7.2.1 (lapp [v15_5] g7.2.2)) h fun v16_6 h7 => obP (asB v16_6) fun b8 => bP b8 (Z v8 h7) (obP (ibin .add v8 (Value.int .i64 1)) fun v18_9 => A116_1 v0 v1 v7 v18_9 h7 Z)) (Z (Value.int .i64 (-1)) h)) : A116_1 v0 v1 v7 v8 h Z := by
  intro a e0 e1 e7 e8
  subst e0 e1 e7 e8
  refine W_loop ?_
  refine W_seq ?_
  refine W_plain ?_
  refine VO_1 s_ibin H fun v9_2 H => ?_
  refine VO_nil ?_
  refine kont_seq ?_
  refine W_seq ?_
  refine obP_elim H fun b3 eb3 H => W_cond eb3 (bP_imp H (fun H => ?_) (fun H => ?_))
  · refine W_skip ?_
    refine kont_seq ?_
    refine W_seq ?_
    refine W_block ?_
    refine W_seq ?_
    refine W_plain ?_
    refine VO_5 s_move ?_
    refine VO_5 s_assign ?_
    refine VO_nil ?_
    refine kont_seq ?_
    refine W_seq ?_
    refine W_plain ?_
    refine VO_5 s_move ?_
    refine VO_5 s_move ?_
    refine VO_5 s_move ?_
    refine VO_1 (s_iaS sl34 el34 sz90) H fun v14_4 H => ?_
    refine VO_1 (s_loadN ag90 sz90) H fun v15_5 H => ?_
    refine VO_4v H fun v16_6 h7 H => ?_
    refine VO_nil ?_
    refine kont_seq ?_
    refine obP_elim H fun b8 eb8 H => W_cond eb8 (bP_imp H (fun H => ?_) (fun H => ?_))
    · refine W_seq ?_
      refine W_plain ?_
      refine VO_5 s_move ?_
      refine VO_5 s_assign ?_
      refine VO_nil ?_
      refine kont_seq ?_
      refine W_ret ?_
      refine kont_block ?_
      refine kont_xs rfl ?_
      refine kont_xl rfl ?_
      refine kont_block ?_
      refine kont_xs rfl ?_
      exact ⟨rfl, obP_of (dres_mk (lm_cons rfl lm_nil)) H⟩
    · refine W_skip ?_
      refine kont_block ?_
      refine kont_seq ?_
      refine W_plain ?_
      refine VO_1 s_ibin H fun v18_9 H => ?_
      refine VO_5 s_move ?_
      refine VO_nil ?_
      exact kont_loop (H _ rfl rfl rfl rfl)
  · refine W_exit ?_
    refine kont_xs rfl ?_
    refine kont_xl rfl ?_
    refine kont_block ?_
    refine kont_seq ?_
    refine W_seq ?_
    refine W_plain ?_
    refine VO_5 s_assign ?_
    refine VO_nil ?_
    refine kont_seq ?_
    refine W_ret ?_
    exact ⟨rfl, obP_of (dres_mk (lm_cons rfl lm_nil)) H⟩

-- lemmata/gram.prod$1
noncomputable def body125 : Code := Cd.bO Try.f125
theorem df125 : dfunc Try.prog 125 = some ⟨Try.f125, body125⟩ := by kernel_rfl
theorem R125 {v0 v1 : Value} {h : DH} {Z : Value → DH → Prop} (H : oh (bx 90 h v0) fun v2_1 h2 => obP (ldN 3 h2 v1) fun v4_3 => obP (ldN 2 h2 v2_1) fun v5_4 => CP Try.prog 126 [v4_3, v5_4] h2 fun v6_5 h6 => obP (bnot v6_5) fun v7_7 => Z v7_7 h6) : CP Try.prog 125 [v0, v1] h Z := by
  refine CP_of df125 ?_
  refine W_seq ?_
  refine W_plain ?_
  refine VO_2 s_box H fun v2_1 h2 H => ?_
  refine VO_5 s_assign ?_
  refine VO_nil ?_
  refine kont_seq ?_
  refine W_seq ?_
  refine W_plain ?_
  refine VO_1 (s_loadN ag28 sz28) H fun v4_3 H => ?_
  refine VO_1 (s_loadN ag90 sz90) H fun v5_4 H => ?_
  refine VO_4 rfl H fun v6_5 h6 H => ?_
  refine VO_1 s_not H fun v7_7 H => ?_
  refine VO_5 s_assign ?_
  refine VO_nil ?_
  refine kont_seq ?_
  refine W_ret ?_
  exact ⟨rfl, obP_of (dres_mk (lm_cons rfl lm_nil)) H⟩

-- lemmata/gram.sym
noncomputable def body126 : Code := Cd.bO Try.f126
theorem df126 : dfunc Try.prog 126 = some ⟨Try.f126, body126⟩ := by kernel_rfl
theorem R126 {v0 v1 : Value} {h : DH} {Z : Value → DH → Prop} (H : oh (bx 28 h v0) fun v2_1 h2 => oh (bx 90 h2 v1) fun v3_3 h4 => obP (fa 0 v3_3) fun v5_5 => obP (ld1 h4 v5_5) fun v6_6 => obP (asB v6_6) fun b7 => bP b7 (obP (fa 1 v3_3) fun v7_8 => obP (ld1 h4 v7_8) fun v8_9 => obP (ibin .geq v8_9 (Value.int .i64 0)) fun v9_10 => obP (gotB v9_10 true) fun w11 => g1 w11 (fa 1 v3_3) fun v11_12 => g1 w11 (ld1 h4 v11_12) fun v12_13 => g1 w11 (fa 0 v2_1) fun v13_14 => g1 w11 (ld1 h4 v13_14) fun v14_15 => g1 w11 (lenS v14_15) fun v15_16 => g1 w11 (ibin .lss v12_13 v15_16) fun v16_17 => obP (pk v9_10 v16_17 (Value.bool false)) fun v17_18 => obP (gotB v17_18 true) fun w19 => g1 w19 (fa 0 v2_1) fun v19_20 => g1 w19 (ld1 h4 v19_20) fun v20_21 => g1 w19 (fa 1 v3_3) fun v21_22 => g1 w19 (ld1 h4 v21_22) fun v22_23 => g1 w19 (iaS 3 v20_21 v22_23) fun v23_24 => g1 w19 (fa 2 v23_24) fun v24_25 => g1 w19 (ld1 h4 v24_25) fun v25_26 => g1 w19 (bnot v25_26) fun v26_27 => obP (pk v17_18 v26_27 (Value.bool false)) fun v27_28 => Z v27_28 h4) (obP (fa 1 v3_3) fun v28_29 => obP (ld1 h4 v28_29) fun v29_30 => obP (ibin .geq v29_30 (Value.int .i64 0)) fun v30_31 => obP (gotB v30_31 true) fun w32 => g1 w32 (fa 1 v3_3) fun v32_33 => g1 w32 (ld1 h4 v32_33) fun v33_34 => g1 w32 (fa 1 v2_1) fun v34_35 => g1 w32 (ld1 h4 v34_35) fun v35_36 => g1 w32 (lenS v35_36) fun v36_37 => g1 w32 (ibin .lss v33_34 v36_37) fun v37_38 => obP (pk v30_31 v37_38 (Value.bool false)) fun v38_39 => Z v38_39 h4)) : CP Try.prog 126 [v0, v1] h Z := by
  refine CP_of df126 ?_
  refine W_seq ?_
  refine W_plain ?_
  refine VO_2 s_box H fun v2_1 h2 H => ?_
  refine VO_2 s_box H fun v3_3 h4 H => ?_
  refine VO_5 s_assign ?_
  refine VO_nil ?_
  refine kont_seq ?_
  refine W_seq ?_
  refine W_seq ?_
  refine W_plain ?_
  refine VO_1 (s_fa tf90_0 rfl) H fun v5_5 H => ?_
  refine VO_1 (s_load1 ag4) H fun v6_6 H => ?_
  refine VO_nil ?_
  refine kont_seq ?_
  refine obP_elim H fun b7 eb7 H => W_cond eb7 (bP_imp H (fun H => ?_) (fun H => ?_))
  · refine W_seq ?_
    refine W_plain ?_
    refine VO_1 (s_fa tf90_1 rfl) H fun v7_8 H => ?_
    refine VO_1 (s_load1 ag3) H fun v8_9 H => ?_
    refine VO_1 s_ibin H fun v9_10 H => ?_
    refine VO_5 s_move ?_
    refine obP_elim H fun w11 ew11 H => ?_
    refine VO_1g rfl ew11 (s_fa tf90_1 rfl) H fun v11_12 H => ?_
    refine VO_1g rfl ew11 (s_load1 ag3) H fun v12_13 H => ?_
    refine VO_1g rfl ew11 (s_fa tf28_0 rfl) H fun v13_14 H => ?_
    refine VO_1g rfl ew11 (s_load1 ag24) H fun v14_15 H => ?_
    refine VO_1g rfl ew11 (s_lenS ud24) H fun v15_16 H => ?_
    refine VO_1g rfl ew11 s_ibin H fun v16_17 H => ?_
    refine VO_1 s_pk H fun v17_18 H => ?_
    refine VO_5 s_move ?_
    refine obP_elim H fun w19 ew19 H => ?_
    refine VO_1g rfl ew19 (s_fa tf28_0 rfl) H fun v19_20 H => ?_
    refine VO_1g rfl ew19 (s_load1 ag24) H fun v20_21 H => ?_
    refine VO_1g rfl ew19 (s_fa tf90_1 rfl) H fun v21_22 H => ?_
    refine VO_1g rfl ew19 (s_load1 ag3) H fun v22_23 H => ?_
    refine VO_1g rfl ew19 (s_iaS sl24 el24 sz99) H fun v23_24 H => ?_
    refine VO_1g rfl ew19 (s_fa tf99_2 rfl) H fun v24_25 H => ?_
    refine VO_1g rfl ew19 (s_load1 ag4) H fun v25_26 H => ?_
    refine VO_1g rfl ew19 s_not H fun v26_27 H => ?_
    refine VO_1 s_pk H fun v27_28 H => ?_
    refine VO_5 s_assign ?_
    refine VO_nil ?_
    refine kont_seq ?_
    refine W_ret ?_
    refine kont_xs rfl ?_
    exact ⟨rfl, obP_of (dres_mk (lm_cons rfl lm_nil)) H⟩
  · refine W_skip ?_
    refine kont_seq ?_
    refine W_seq ?_
    refine W_plain ?_
    refine VO_1 (s_fa tf90_1 rfl) H fun v28_29 H => ?_
    refine VO_1 (s_load1 ag3) H fun v29_30 H => ?_
    refine VO_1 s_ibin H fun v30_31 H => ?_
    refine VO_5 s_move ?_
    refine obP_elim H fun w32 ew32 H => ?_
    refine VO_1g rfl ew32 (s_fa tf90_1 rfl) H fun v32_33 H => ?_
    refine VO_1g rfl ew32 (s_load1 ag3) H fun v33_34 H => ?_
    refine VO_1g rfl ew32 (s_fa tf28_1 rfl) H fun v34_35 H => ?_
    refine VO_1g rfl ew32 (s_load1 ag25) H fun v35_36 H => ?_
    refine VO_1g rfl ew32 (s_lenS ud25) H fun v36_37 H => ?_
    refine VO_1g rfl ew32 s_ibin H fun v37_38 H => ?_
    refine VO_1 s_pk H fun v38_39 H => ?_
    refine VO_5 s_assign ?_
    refine VO_nil ?_
    refine kont_seq ?_
    refine W_ret ?_
    exact ⟨rfl, obP_of (dres_mk (lm_cons rfl lm_nil)) H⟩

end Go.Det
end

/- PRINTED BY gen.py: the conditions of functions. -/
import Derived.Test.YtlcjcokniplghaaFA
set_option linter.unusedVariables false
set_option linter.unusedSimpArgs false
set_option maxRecDepth 100000
noncomputable section
namespace Go.Det
open Go.Proofs
-- lemmata/first.grows
noncomputable def body73 : Code := Cd.bO Try.f73
theorem df73 : dfunc Try.prog 73 = some ⟨Try.f73, body73⟩ := by kernel_rfl
def A73_1 (v0 : Value) (h : DH) (Z : Value → DH → Prop) : Prop := ∀ a : DA, DA.val a 0 = v0 → W Try.prog (Cd.bB body73) a h (kont Try.prog [.block 0] (Fin Try.prog Try.f73 Z))
theorem R73 {v0 : Value} {h : DH} {Z : Value → DH → Prop} (H : A73_1 v0 h Z) : CP Try.prog 73 [v0] h Z := by
  refine CP_of df73 ?_
  refine W_block ?_
  exact H _ rfl

theorem R73_1 {v0 : Value} {h : DH} {Z : Value → DH → Prop} (H : obP (asFunc v0) fun g2 => CP Try.prog g2.1 (lapp g2.2.1 (lapp [] g2.2.2)) h fun v3_1 h2 => obP (asB v3_1) fun b3 => bP b3 (A73_1 v0 h2 Z) (Z (.tuple ⟨[]⟩) h2)) : A73_1 v0 h Z := by
  intro a e0
  subst e0
  refine W_loop ?_
  refine W_seq ?_
  refine W_seq ?_
  refine W_plain ?_
  refine VO_5 s_move ?_
  refine VO_4v H fun v3_1 h2 H => ?_
  refine VO_nil ?_
  refine kont_seq ?_
  refine obP_elim H fun b3 eb3 H => W_cond eb3 (bP_imp H (fun H => ?_) (fun H => ?_))
  · refine W_skip ?_
    refine kont_seq ?_
    refine W_block ?_
    refine W_skip ?_
    refine kont_block ?_
    exact kont_loop (H _ rfl)
  · refine W_exit ?_
    refine kont_xs rfl ?_
    refine kont_xl rfl ?_
    refine kont_block ?_
    exact ⟨rfl, obP_of (dres_mk lm_nil) H⟩

-- lemmata/first.Nullable$1
noncomputable def body74 : Code := Cd.bO Try.f74
theorem df74 : dfunc Try.prog 74 = some ⟨Try.f74, body74⟩ := by kernel_rfl
def A74_1 (v1 v2 v6 v7 v8 : Value) (h : DH) (Z : Value → DH → Prop) : Prop := ∀ a : DA, DA.val a 1 = v1 → DA.val a 2 = v2 → DA.val a 6 = v6 → DA.val a 7 = v7 → DA.val a 8 = v8 → W Try.prog (Cd.bB (Cd.sR (Cd.sL (Cd.sR body74)))) a h (kont Try.prog [.block 0, .seq (Cd.sR (Cd.sR body74))] (Fin Try.prog Try.f74 Z))
theorem R74 {v0 v1 : Value} {h : DH} {Z : Value → DH → Prop} (H : obP (fa 2 v0) fun v5_1 => obP (ld1 h v5_1) fun v6_2 => obP (lenS v6_2) fun v7_3 => A74_1 v1 (Value.bool false) v6_2 v7_3 (Value.int .i64 0) h Z) : CP Try.prog 74 [v0, v1] h Z := by
  refine CP_of df74 ?_
  refine W_seq ?_
  refine W_plain ?_
  refine VO_5 s_assign ?_
  refine VO_nil ?_
  refine kont_seq ?_
  refine W_seq ?_
  refine W_seq ?_
  refine W_plain ?_
  refine VO_1 (s_fa tf28_2 rfl) H fun v5_1 H => ?_
  refine VO_1 (s_load1 ag26) H fun v6_2 H => ?_
  refine VO_1 (s_lenS ud26) H fun v7_3 H => ?_
  refine VO_5 s_move ?_
  refine VO_nil ?_
  refine kont_seq ?_
  refine W_block ?_
  exact H _ rfl rfl rfl rfl rfl

theorem R74_1 {v1 v2 v6 v7 v8 : Value} {h : DH} {Z : Value → DH → Prop} (H : obP (ibin .lss v8 v7) fun v9_4 => obP (asB v9_4) fun b5 => bP b5 (obP (iaS 3 v6 v8) fun v10_6 => obP (ldN 3 h v10_6) fun v11_7 => oh (al 37 [(Value.int .i64 0), (Value.slice none 0 0), (Value.slice none 0 0)] h) fun v4_8 h9 => obP (st 3 h9 v4_8 v11_7) fun h10 => obP (fa 1 v4_8) fun v12_11 => obP (ld1 h10 v12_11) fun v13_12 => CP Try.prog 75 [v13_12, (Value.func (.func 76) ⟨[]⟩ ⟨[v1]⟩)] h10 fun v15_13 h14 => obP (bnot v15_13) fun v16_15 => obP (gotB v16_15 true) fun w16 => g1 w16 (ld1 h14 v1) fun v18_17 => g1 w16 (fa 0 v4_8) fun v19_18 => g1 w16 (ld1 h14 v19_18) fun v20_19 => g4 Try.prog w16 77 [v18_17, v20_19] h14 fun v21_20 h21 => obP (pk v16_15 v21_20 (Value.bool false)) fun v22_22 => obP (asB v22_22) fun b23 => bP b23 (obP (ibin .add v8 (Value.int .i64 1)) fun v23_24 => A74_1 v1 (Value.bool true) v6 v7 v23_24 h21 Z) (obP (ibin .add v8 (Value.int .i64 1)) fun v23_25 => A74_1 v1 v2 v6 v7 v23_25 h21 Z)) (Z v2 h)) : A74_1 v1 v2 v6 v7 v8 h Z := by
  intro a e1 e2 e6 e7 e8
  subst e1 e2 e6 e7 e8
  refine W_loop ?_
  refine W_seq ?_
  refine W_plain ?_
  refine VO_1 s_ibin H fun v9_4 H => ?_
  refine VO_nil ?_
  refine kont_seq ?_
  refine W_seq ?_
  refine obP_elim H fun b5 eb5 H => W_cond eb5 (bP_imp H (fun H => ?_) (fun H => ?_))
  · refine W_skip ?_
    refine kont_seq ?_
    refine W_seq ?_
    refine W_block ?_
    refine W_seq ?_
    refine W_plain ?_
    refine VO_1 (s_iaS sl26 el26 sz37) H fun v10_6 H => ?_
    refine VO_1 (s_loadN ag37 sz37) H fun v11_7 H => ?_
    refine VO_2 (s_al zc37) H fun v4_8 h9 H => ?_
    refine VO_3 (s_store sz37) H fun h10 H => ?_
    refine VO_nil ?_
    refine kont_seq ?_
    refine W_seq ?_
    refine W_plain ?_
    refine VO_1 (s_fa tf37_1 rfl) H fun v12_11 H => ?_
    refine VO_1 (s_load1 ag34) H fun v13_12 H => ?_
    refine VO_5 s_makeFunc ?_
    refine VO_4 rfl H fun v15_13 h14 H => ?_
    refine VO_1 s_not H fun v16_15 H => ?_
    refine VO_5 s_move ?_
    refine obP_elim H fun w16 ew16 H => ?_
    refine VO_1g rfl ew16 (s_load1 ag64) H fun v18_17 H => ?_
    refine VO_1g rfl ew16 (s_fa tf37_0 rfl) H fun v19_18 H => ?_
    refine VO_1g rfl ew16 (s_load1 ag3) H fun v20_19 H => ?_
    refine VO_4g rfl ew16 rfl H fun v21_20 h21 H => ?_
    refine VO_1 s_pk H fun v22_22 H => ?_
    refine VO_nil ?_
    refine kont_seq ?_
    refine obP_elim H fun b23 eb23 H => W_cond eb23 (bP_imp H (fun H => ?_) (fun H => ?_))
    · refine W_plain ?_
      refine VO_5 s_assign ?_
      refine VO_nil ?_
      refine kont_block ?_
      refine kont_seq ?_
      refine W_plain ?_
      refine VO_1 s_ibin H fun v23_24 H => ?_
      refine VO_5 s_move ?_
      refine VO_nil ?_
      exact kont_loop (H _ rfl rfl rfl rfl rfl)
    · refine W_skip ?_
      refine kont_block ?_
      refine kont_seq ?_
      refine W_plain ?_
      refine VO_1 s_ibin H fun v23_25 H => ?_
      refine VO_5 s_move ?_
      refine VO_nil ?_
      exact kont_loop (H _ rfl rfl rfl rfl rfl)
  · refine W_exit ?_
    refine kont_xs rfl ?_
    refine kont_xl rfl ?_
    refine kont_block ?_
    refine kont_seq ?_
    refine W_seq ?_
    refine W_plain ?_
    refine VO_5 s_move ?_
    refine VO_5 s_assign ?_
    refine VO_nil ?_
    refine kont_seq ?_
    refine W_ret ?_
    exact ⟨rfl, obP_of (dres_mk (lm_cons rfl lm_nil)) H⟩

-- lemmata/first.Nullable$1$1
noncomputable def body76 : Code := Cd.bO Try.f76
theorem df76 : dfunc Try.prog 76 = some ⟨Try.f76, body76⟩ := by kernel_rfl
theorem R76 {v0 v1 : Value} {h : DH} {Z : Value → DH → Prop} (H : oh (bx 90 h v0) fun v2_1 h2 => obP (fa 0 v2_1) fun v4_3 => obP (ld1 h2 v4_3) fun v5_4 => obP (gotB v5_4 false) fun w5 => g1 w5 (ld1 h2 v1) fun v7_6 => g1 w5 (fa 1 v2_1) fun v8_7 => g1 w5 (ld1 h2 v8_7) fun v9_8 => g1 w5 (iaS 1 v7_6 v9_8) fun v10_9 => g1 w5 (ld1 h2 v10_9) fun v11_10 => g1 w5 (bnot v11_10) fun v12_11 => obP (pk v5_4 (Value.bool true) v12_11) fun v13_12 => Z v13_12 h2) : CP Try.prog 76 [v0, v1] h Z := by
  refine CP_of df76 ?_
  refine W_seq ?_
  refine W_plain ?_
  refine VO_2 s_box H fun v2_1 h2 H => ?_
  refine VO_5 s_assign ?_
  refine VO_nil ?_
  refine kont_seq ?_
  refine W_seq ?_
  refine W_plain ?_
  refine VO_1 (s_fa tf90_0 rfl) H fun v4_3 H => ?_
  refine VO_1 (s_load1 ag4) H fun v5_4 H => ?_
  refine VO_5 s_move ?_
  refine obP_elim H fun w5 ew5 H => ?_
  refine VO_1g rfl ew5 (s_load1 ag64) H fun v7_6 H => ?_
  refine VO_1g rfl ew5 (s_fa tf90_1 rfl) H fun v8_7 H => ?_
  refine VO_1g rfl ew5 (s_load1 ag3) H fun v9_8 H => ?_
  refine VO_1g rfl ew5 (s_iaS sl64 el64 sz4) H fun v10_9 H => ?_
  refine VO_1g rfl ew5 (s_load1 ag4) H fun v11_10 H => ?_
  refine VO_1g rfl ew5 s_not H fun v12_11 H => ?_
  refine VO_1 s_pk H fun v13_12 H => ?_
  refine VO_5 s_assign ?_
  refine VO_nil ?_
  refine kont_seq ?_
  refine W_ret ?_
  exact ⟨rfl, obP_of (dres_mk (lm_cons rfl lm_nil)) H⟩

-- lemmata/first.set
noncomputable def body77 : Code := Cd.bO Try.f77
theorem df77 : dfunc Try.prog 77 = some ⟨Try.f77, body77⟩ := by kernel_rfl
theorem R77 {v0 v1 : Value} {h : DH} {Z : Value → DH → Prop} (H : obP (iaS 1 v0 v1) fun v8_1 => obP (ld1 h v8_1) fun v9_2 => obP (iaS 1 v0 v1) fun v12_3 => obP (st 1 h v12_3 (Value.bool true)) fun h4 => obP (bnot v9_2) fun v14_5 => Z v14_5 h4) : CP Try.prog 77 [v0, v1] h Z := by
  refine CP_of df77 ?_
  refine W_seq ?_
  refine W_plain ?_
  refine VO_5 s_assign ?_
  refine VO_nil ?_
  refine kont_seq ?_
  refine W_seq ?_
  refine W_plain ?_
  refine VO_5 s_move ?_
  refine VO_5 s_move ?_
  refine VO_1 (s_iaS sl64 el64 sz4) H fun v8_1 H => ?_
  refine VO_1 (s_load1 ag4) H fun v9_2 H => ?_
  refine VO_5 s_assign ?_
  refine VO_nil ?_
  refine kont_seq ?_
  refine W_seq ?_
  refine W_plain ?_
  refine VO_5 s_move ?_
  refine VO_5 s_move ?_
  refine VO_1 (s_iaS sl64 el64 sz4) H fun v12_3 H => ?_
  refine VO_3 (s_store sz4) H fun h4 H => ?_
  refine VO_nil ?_
  refine kont_seq ?_
  refine W_seq ?_
  refine W_plain ?_
  refine VO_5 s_move ?_
  refine VO_1 s_not H fun v14_5 H => ?_
  refine VO_5 s_assign ?_
  refine VO_nil ?_
  refine kont_seq ?_
  refine W_ret ?_
  exact ⟨rfl, obP_of (dres_mk (lm_cons rfl lm_nil)) H⟩

-- lemmata/first.Nullable
noncomputable def body35 : Code := Cd.bO Try.f35
theorem df35 : dfunc Try.prog 35 = some ⟨Try.f35, body35⟩ := by kernel_rfl
theorem R35 {v0 : Value} {h : DH} {Z : Value → DH → Prop} (H : oh (bx 28 h v0) fun v1_1 h2 => obP (ldN 3 h2 v1_1) fun v4_3 => CP Try.prog 49 [v4_3] h2 fun v5_4 h5 => obP (bnot v5_4) fun v6_6 => obP (asB v6_6) fun b7 => bP b7 (Z (Value.slice none 0 0) h5) (obP (fa 1 v1_1) fun v7_8 => obP (ld1 h5 v7_8) fun v8_9 => obP (lenS v8_9) fun v9_10 => oh (mkS 4 1 1 [(Value.bool false)] h5 v9_10 v9_10) fun v10_11 h12 => oh (al 64 [(Value.slice none 0 0)] h12) fun v3_13 h14 => obP (st 1 h14 v3_13 v10_11) fun h15 => CP Try.prog 73 [(Value.func (.func 74) ⟨[]⟩ ⟨[v1_1, v3_13]⟩)] h15 fun v12_16 h17 => obP (ld1 h17 v3_13) fun v13_18 => Z v13_18 h17)) : CP Try.prog 35 [v0] h Z := by
  refine CP_of df35 ?_
  refine W_seq ?_
  refine W_plain ?_
  refine VO_2 s_box H fun v1_1 h2 H => ?_
  refine VO_5 s_assign ?_
  refine VO_nil ?_
  refine kont_seq ?_
  refine W_seq ?_
  refine W_seq ?_
  refine W_plain ?_
  refine VO_1 (s_loadN ag28 sz28) H fun v4_3 H => ?_
  refine VO_4 rfl H fun v5_4 h5 H => ?_
  refine VO_1 s_not H fun v6_6 H => ?_
  refine VO_nil ?_
  refine kont_seq ?_
  refine obP_elim H fun b7 eb7 H => W_cond eb7 (bP_imp H (fun H => ?_) (fun H => ?_))
  · refine W_seq ?_
    refine W_plain ?_
    refine VO_5 s_assign ?_
    refine VO_nil ?_
    refine kont_seq ?_
    refine W_ret ?_
    refine kont_xs rfl ?_
    exact ⟨rfl, obP_of (dres_mk (lm_cons rfl lm_nil)) H⟩
  · refine W_skip ?_
    refine kont_seq ?_
    refine W_seq ?_
    refine W_plain ?_
    refine VO_1 (s_fa tf28_1 rfl) H fun v7_8 H => ?_
    refine VO_1 (s_load1 ag25) H fun v8_9 H => ?_
    refine VO_1 (s_lenS ud25) H fun v9_10 H => ?_
    refine VO_2 (s_mkS el64 sz4 zr4 by4) H fun v10_11 h12 H => ?_
    refine VO_2 (s_al zc64) H fun v3_13 h14 H => ?_
    refine VO_3 (s_store sz64) H fun h15 H => ?_
    refine VO_nil ?_
    refine kont_seq ?_
    refine W_seq ?_
    refine W_plain ?_
    refine VO_5 s_makeFunc ?_
    refine VO_4 rfl H fun v12_16 h17 H => ?_
    refine VO_nil ?_
    refine kont_seq ?_
    refine W_seq ?_
    refine W_plain ?_
    refine VO_1 (s_load1 ag64) H fun v13_18 H => ?_
    refine VO_5 s_assign ?_
    refine VO_nil ?_
    refine kont_seq ?_
    refine W_ret ?_
    exact ⟨rfl, obP_of (dres_mk (lm_cons rfl lm_nil)) H⟩

-- lemmata/first.sets
noncomputable def body78 : Code := Cd.bO Try.f78
theorem df78 : dfunc Try.prog 78 = some ⟨Try.f78, body78⟩ := by kernel_rfl
def A78_1 (v1 v5 v10 v11 : Value) (h : DH) (Z : Value → DH → Prop) : Prop := ∀ a : DA, DA.val a 1 = v1 → DA.val a 5 = v5 → DA.val a 10 = v10 → DA.val a 11 = v11 → W Try.prog (Cd.bB (Cd.sR (Cd.sL (Cd.sR (Cd.sR body78))))) a h (kont Try.prog [.block 0, .seq (Cd.sR (Cd.sR (Cd.sR body78)))] (Fin Try.prog Try.f78 Z))
theorem R78 {v0 v1 : Value} {h : DH} {Z : Value → DH → Prop} (H : oh (mkS 64 1 24 [(Value.slice none 0 0)] h v0 v0) fun v8_1 h2 => obP (lenS v8_1) fun v10_3 => A78_1 v1 v8_1 v10_3 (Value.int .i64 0) h2 Z) : CP Try.prog 78 [v0, v1] h Z := by
  refine CP_of df78 ?_
  refine W_seq ?_
  refine W_plain ?_
  refine VO_5 s_assign ?_
  refine VO_nil ?_
  refine kont_seq ?_
  refine W_seq ?_
  refine W_plain ?_
  refine VO_5 s_move ?_
  refine VO_2 (s_mkS el65 sz64 zr64 by64) H fun v8_1 h2 H => ?_
  refine VO_5 s_assign ?_
  refine VO_nil ?_
  refine kont_seq ?_
  refine W_seq ?_
  refine W_seq ?_
  refine W_plain ?_
  refine VO_5 s_move ?_
  refine VO_1 (s_lenS ud65) H fun v10_3 H => ?_
  refine VO_5 s_move ?_
  refine VO_nil ?_
  refine kont_seq ?_
  refine W_block ?_
  exact H _ rfl rfl rfl rfl

theorem R78_1 {v1 v5 v10 v11 : Value} {h : DH} {Z : Value → DH → Prop} (H : obP (ibin .lss v11 v10) fun v12_4 => obP (asB v12_4) fun b5 => bP b5 (oh (mkS 4 1 1 [(Value.bool false)] h v1 v1) fun v17_6 h7 => obP (iaS 1 v5 v11) fun v18_8 => obP (st 1 h7 v18_8 v17_6) fun h9 => obP (ibin .add v11 (Value.int .i64 1)) fun v19_10 => A78_1 v1 v5 v10 v19_10 h9 Z) (Z v5 h)) : A78_1 v1 v5 v10 v11 h Z := by
  intro a e1 e5 e10 e11
  subst e1 e5 e10 e11
  refine W_loop ?_
  refine W_seq ?_
  refine W_plain ?_
  refine VO_1 s_ibin H fun v12_4 H => ?_
  refine VO_nil ?_
  refine kont_seq ?_
  refine W_seq ?_
  refine obP_elim H fun b5 eb5 H => W_cond eb5 (bP_imp H (fun H => ?_) (fun H => ?_))
  · refine W_skip ?_
    refine kont_seq ?_
    refine W_seq ?_
    refine W_block ?_
    refine W_seq ?_
    refine W_plain ?_
    refine VO_5 s_move ?_
    refine VO_5 s_assign ?_
    refine VO_nil ?_
    refine kont_seq ?_
    refine W_plain ?_
    refine VO_5 s_move ?_
    refine VO_5 s_move ?_
    refine VO_5 s_move ?_
    refine VO_2 (s_mkS el64 sz4 zr4 by4) H fun v17_6 h7 H => ?_
    refine VO_1 (s_iaS sl65 el65 sz64) H fun v18_8 H => ?_
    refine VO_3 (s_store sz64) H fun h9 H => ?_
    refine VO_nil ?_
    refine kont_block ?_
    refine kont_seq ?_
    refine W_plain ?_
    refine VO_1 s_ibin H fun v19_10 H => ?_
    refine VO_5 s_move ?_
    refine VO_nil ?_
    exact kont_loop (H _ rfl rfl rfl rfl)
  · refine W_exit ?_
    refine kont_xs rfl ?_
    refine kont_xl rfl ?_
    refine kont_block ?_
    refine kont_seq ?_
    refine W_seq ?_
    refine W_plain ?_
    refine VO_5 s_move ?_
    refine VO_5 s_assign ?_
    refine VO_nil ?_
    refine kont_seq ?_
    refine W_ret ?_
    exact ⟨rfl, obP_of (dres_mk (lm_cons rfl lm_nil)) H⟩

-- lemmata/first.union
noncomputable def body81 : Code := Cd.bO Try.f81
theorem df81 : dfunc Try.prog 81 = some ⟨Try.f81, body81⟩ := by kernel_rfl
def A81_1 (v0 v4 v7 v8 v9 : Value) (h : DH) (Z : Value → DH → Prop) : Prop := ∀ a : DA, DA.val a 0 = v0 → DA.val a 4 = v4 → DA.val a 7 = v7 → DA.val a 8 = v8 → DA.val a 9 = v9 → W Try.prog (Cd.bB (Cd.sR (Cd.sL (Cd.sR body81)))) a h (kont Try.prog [.block 0, .seq (Cd.sR (Cd.sR body81))] (Fin Try.prog Try.f81 Z))
theorem R81 {v0 v1 : Value} {h : DH} {Z : Value → DH → Prop} (H : obP (lenS v1) fun v8_1 => A81_1 v0 (Value.bool false) v1 v8_1 (Value.int .i64 0) h Z) : CP Try.prog 81 [v0, v1] h Z := by
  refine CP_of df81 ?_
  refine W_seq ?_
  refine W_plain ?_
  refine VO_5 s_assign ?_
  refine VO_nil ?_
  refine kont_seq ?_
  refine W_seq ?_
  refine W_seq ?_
  refine W_plain ?_
  refine VO_5 s_move ?_
  refine VO_1 (s_lenS ud64) H fun v8_1 H => ?_
  refine VO_5 s_move ?_
  refine VO_nil ?_
  refine kont_seq ?_
  refine W_block ?_
  exact H _ rfl rfl rfl rfl rfl

theorem R81_1 {v0 v4 v7 v8 v9 : Value} {h : DH} {Z : Value → DH → Prop} (H : obP (ibin .lss v9 v8) fun v10_2 => obP (asB v10_2) fun b3 => bP b3 (obP (iaS 1 v7 v9) fun v12_4 => obP (ld1 h v12_4) fun v13_5 => obP (gotB v13_5 true) fun w6 => g4 Try.prog w6 77 [(sel w6 v0 undef), (sel w6 v9 undef)] h fun v18_7 h8 => obP (pk v13_5 v18_7 (Value.bool false)) fun v19_9 => obP (asB v19_9) fun b10 => bP b10 (obP (ibin .add v9 (Value.int .i64 1)) fun v20_11 => A81_1 v0 (Value.bool true) v7 v8 v20_11 h8 Z) (obP (ibin .add v9 (Value.int .i64 1)) fun v20_12 => A81_1 v0 v4 v7 v8 v20_12 h8 Z)) (Z v4 h)) : A81_1 v0 v4 v7 v8 v9 h Z := by
  intro a e0 e4 e7 e8 e9
  subst e0 e4 e7 e8 e9
  refine W_loop ?_
  refine W_seq ?_
  refine W_plain ?_
  refine VO_1 s_ibin H fun v10_2 H => ?_
  refine VO_nil ?_
  refine kont_seq ?_
  refine W_seq ?_
  refine obP_elim H fun b3 eb3 H => W_cond eb3 (bP_imp H (fun H => ?_) (fun H => ?_))
  · refine W_skip ?_
    refine kont_seq ?_
    refine W_seq ?_
    refine W_block ?_
    refine W_seq ?_
    refine W_plain ?_
    refine VO_5 s_move ?_
    refine VO_1 (s_iaS sl64 el64 sz4) H fun v12_4 H => ?_
    refine VO_1 (s_load1 ag4) H fun v13_5 H => ?_
    refine VO_5 s_assign ?_
    refine VO_5 s_assign ?_
    refine VO_nil ?_
    refine kont_seq ?_
    refine W_seq ?_
    refine W_plain ?_
    refine VO_5 s_move ?_
    refine VO_5 s_move ?_
    refine obP_elim H fun w6 ew6 H => ?_
    refine VO_5m rfl ew6 s_move ?_
    refine VO_5m rfl ew6 s_move ?_
    refine VO_4g rfl ew6 rfl H fun v18_7 h8 H => ?_
    refine VO_1 s_pk H fun v19_9 H => ?_
    refine VO_nil ?_
    refine kont_seq ?_
    refine obP_elim H fun b10 eb10 H => W_cond eb10 (bP_imp H (fun H => ?_) (fun H => ?_))
    · refine W_plain ?_
      refine VO_5 s_assign ?_
      refine VO_nil ?_
      refine kont_block ?_
      refine kont_seq ?_
      refine W_plain ?_
      refine VO_1 s_ibin H fun v20_11 H => ?_
      refine VO_5 s_move ?_
      refine VO_nil ?_
      exact kont_loop (H _ rfl rfl rfl rfl rfl)
    · refine W_skip ?_
      refine kont_block ?_
      refine kont_seq ?_
      refine W_plain ?_
      refine VO_1 s_ibin H fun v20_12 H => ?_
      refine VO_5 s_move ?_
      refine VO_nil ?_
      exact kont_loop (H _ rfl rfl rfl rfl rfl)
  · refine W_exit ?_
    refine kont_xs rfl ?_
    refine kont_xl rfl ?_
    refine kont_block ?_
    refine kont_seq ?_
    refine W_seq ?_
    refine W_plain ?_
    refine VO_5 s_move ?_
    refine VO_5 s_assign ?_
    refine VO_nil ?_
    refine kont_seq ?_
    refine W_ret ?_
    exact ⟨rfl, obP_of (dres_mk (lm_cons rfl lm_nil)) H⟩

-- lemmata/first.begins
noncomputable def body80 : Code := Cd.bO Try.f80
theorem df80 : dfunc Try.prog 80 = some ⟨Try.f80, body80⟩ := by kernel_rfl
def A80_1 (v1 v2 v4 v10 v17 v18 v19 : Value) (h : DH) (Z : Value → DH → Prop) : Prop := ∀ a : DA, DA.val a 1 = v1 → DA.val a 2 = v2 → DA.val a 4 = v4 → DA.val a 10 = v10 → DA.val a 17 = v17 → DA.val a 18 = v18 → DA.val a 19 = v19 → W Try.prog (Cd.bB (Cd.sR (Cd.sL (Cd.sR (Cd.sR body80))))) a h (kont Try.prog [.block 0, .seq (Cd.sR (Cd.sR (Cd.sR body80)))] (Fin Try.prog Try.f80 Z))
theorem R80 {v0 v1 v2 v3 : Value} {h : DH} {Z : Value → DH → Prop} (H : oh (bx 28 h v0) fun v4_1 h2 => obP (fa 0 v4_1) fun v13_3 => obP (ld1 h2 v13_3) fun v14_4 => obP (lenS v14_4) fun v15_5 => oh (mkS 4 1 1 [(Value.bool false)] h2 v15_5 v15_5) fun v16_6 h7 => obP (lenS v3) fun v18_8 => A80_1 v1 v2 v4_1 v16_6 v3 v18_8 (Value.int .i64 0) h7 Z) : CP Try.prog 80 [v0, v1, v2, v3] h Z := by
  refine CP_of df80 ?_
  refine W_seq ?_
  refine W_plain ?_
  refine VO_2 s_box H fun v4_1 h2 H => ?_
  refine VO_5 s_assign ?_
  refine VO_5 s_assign ?_
  refine VO_nil ?_
  refine kont_seq ?_
  refine W_seq ?_
  refine W_plain ?_
  refine VO_1 (s_fa tf28_0 rfl) H fun v13_3 H => ?_
  refine VO_1 (s_load1 ag24) H fun v14_4 H => ?_
  refine VO_1 (s_lenS ud24) H fun v15_5 H => ?_
  refine VO_2 (s_mkS el64 sz4 zr4 by4) H fun v16_6 h7 H => ?_
  refine VO_5 s_assign ?_
  refine VO_nil ?_
  refine kont_seq ?_
  refine W_seq ?_
  refine W_seq ?_
  refine W_plain ?_
  refine VO_5 s_move ?_
  refine VO_1 (s_lenS ud34) H fun v18_8 H => ?_
  refine VO_5 s_move ?_
  refine VO_nil ?_
  refine kont_seq ?_
  refine W_block ?_
  exact H _ rfl rfl rfl rfl rfl rfl rfl

theorem R80_1 {v1 v2 v4 v10 v17 v18 v19 : Value} {h : DH} {Z : Value → DH → Prop} (H : obP (ibin .lss v19 v18) fun v20_9 => obP (asB v20_9) fun b10 => bP b10 (obP (iaS 2 v17 v19) fun v21_11 => obP (ldN 2 h v21_11) fun v22_12 => oh (al 90 [(Value.bool false), (Value.int .i64 0)] h) fun v12_13 h14 => obP (st 2 h14 v12_13 v22_12) fun h15 => obP (fa 1 v12_13) fun v24_16 => obP (ld1 h15 v24_16) fun v25_17 => obP (ibin .lss v25_17 (Value.int .i64 0)) fun v26_18 => obP (gotB v26_18 false) fun w19 => g1 w19 (fa 0 v12_13) fun v28_20 => g1 w19 (ld1 h15 v28_20) fun v29_21 => obP (gotB (sel w19 v29_21 undef) true) fun w22 => g1 w22 (fa 1 v12_13) fun v31_23 => g1 w22 (ld1 h15 v31_23) fun v32_24 => g1 w22 (fa 0 v4) fun v33_25 => g1 w22 (ld1 h15 v33_25) fun v34_26 => g1 w22 (lenS v34_26) fun v35_27 => g1 w22 (ibin .geq v32_24 v35_27) fun v36_28 => g1 w19 (pk (sel w19 v29_21 undef) v36_28 (Value.bool false)) fun v37_29 => obP (pk v26_18 (Value.bool true) v37_29) fun v38_30 => obP (gotB v38_30 false) fun w31 => g1 w31 (fa 0 v12_13) fun v40_32 => g1 w31 (ld1 h15 v40_32) fun v41_33 => g1 w31 (bnot v41_33) fun v42_34 => obP (gotB (sel w31 v42_34 undef) true) fun w35 => g1 w35 (fa 1 v12_13) fun v44_36 => g1 w35 (ld1 h15 v44_36) fun v45_37 => g1 w35 (fa 1 v4) fun v46_38 => g1 w35 (ld1 h15 v46_38) fun v47_39 => g1 w35 (lenS v47_39) fun v48_40 => g1 w35 (ibin .geq v45_37 v48_40) fun v49_41 => g1 w31 (pk (sel w31 v42_34 undef) v49_41 (Value.bool false)) fun v50_42 => obP (pk v38_30 (Value.bool true) v50_42) fun v51_43 => obP (asB v51_43) fun b44 => bP b44 (Z (.tuple ⟨[v10, (Value.bool false)]⟩) h15) (obP (fa 0 v12_13) fun v54_45 => obP (ld1 h15 v54_45) fun v55_46 => obP (asB v55_46) fun b47 => bP b47 (obP (fa 1 v12_13) fun v57_48 => obP (ld1 h15 v57_48) fun v58_49 => obP (iaS 1 v10 v58_49) fun v59_50 => obP (st 1 h15 v59_50 (Value.bool true)) fun h51 => Z (.tuple ⟨[v10, (Value.bool false)]⟩) h51) (obP (fa 1 v12_13) fun v63_52 => obP (ld1 h15 v63_52) fun v64_53 => obP (iaS 1 v2 v64_53) fun v65_54 => obP (ld1 h15 v65_54) fun v66_55 => CP Try.prog 81 [v10, v66_55] h15 fun v67_56 h57 => obP (fa 1 v12_13) fun v69_58 => obP (ld1 h57 v69_58) fun v70_59 => obP (iaS 1 v1 v70_59) fun v71_60 => obP (ld1 h57 v71_60) fun v72_61 => obP (bnot v72_61) fun v73_62 => obP (asB v73_62) fun b63 => bP b63 (Z (.tuple ⟨[v10, (Value.bool false)]⟩) h57) (obP (ibin .add v19 (Value.int .i64 1)) fun v75_64 => A80_1 v1 v2 v4 v10 v17 v18 v75_64 h57 Z)))) (Z (.tuple ⟨[v10, (Value.bool true)]⟩) h)) : A80_1 v1 v2 v4 v10 v17 v18 v19 h Z := by
  intro a e1 e2 e4 e10 e17 e18 e19
  subst e1 e2 e4 e10 e17 e18 e19
  refine W_loop ?_
  refine W_seq ?_
  refine W_plain ?_
  refine VO_1 s_ibin H fun v20_9 H => ?_
  refine VO_nil ?_
  refine kont_seq ?_
  refine W_seq ?_
  refine obP_elim H fun b10 eb10 H => W_cond eb10 (bP_imp H (fun H => ?_) (fun H => ?_))
  · refine W_skip ?_
    refine kont_seq ?_
    refine W_seq ?_
    refine W_block ?_
    refine W_seq ?_
    refine W_plain ?_
    refine VO_1 (s_iaS sl34 el34 sz90) H fun v21_11 H => ?_
    refine VO_1 (s_loadN ag90 sz90) H fun v22_12 H => ?_
    refine VO_2 (s_al zc90) H fun v12_13 h14 H => ?_
    refine VO_3 (s_store sz90) H fun h15 H => ?_
    refine VO_nil ?_
    refine kont_seq ?_
    refine W_seq ?_
    refine W_block ?_
    refine W_seq ?_
    refine W_plain ?_
    refine VO_1 (s_fa tf90_1 rfl) H fun v24_16 H => ?_
    refine VO_1 (s_load1 ag3) H fun v25_17 H => ?_
    refine VO_1 s_ibin H fun v26_18 H => ?_
    refine VO_5 s_move ?_
    refine obP_elim H fun w19 ew19 H => ?_
    refine VO_1g rfl ew19 (s_fa tf90_0 rfl) H fun v28_20 H => ?_
    refine VO_1g rfl ew19 (s_load1 ag4) H fun v29_21 H => ?_
    refine VO_5m rfl ew19 s_move ?_
    refine obP_elim H fun w22 ew22 H => ?_
    refine VO_1g rfl ew22 (s_fa tf90_1 rfl) H fun v31_23 H => ?_
    refine VO_1g rfl ew22 (s_load1 ag3) H fun v32_24 H => ?_
    refine VO_1g rfl ew22 (s_fa tf28_0 rfl) H fun v33_25 H => ?_
    refine VO_1g rfl ew22 (s_load1 ag24) H fun v34_26 H => ?_
    refine VO_1g rfl ew22 (s_lenS ud24) H fun v35_27 H => ?_
    refine VO_1g rfl ew22 s_ibin H fun v36_28 H => ?_
    refine VO_1g rfl ew19 s_pk H fun v37_29 H => ?_
    refine VO_1 s_pk H fun v38_30 H => ?_
    refine VO_5 s_move ?_
    refine obP_elim H fun w31 ew31 H => ?_
    refine VO_1g rfl ew31 (s_fa tf90_0 rfl) H fun v40_32 H => ?_
    refine VO_1g rfl ew31 (s_load1 ag4) H fun v41_33 H => ?_
    refine VO_1g rfl ew31 s_not H fun v42_34 H => ?_
    refine VO_5m rfl ew31 s_move ?_
    refine obP_elim H fun w35 ew35 H => ?_
    refine VO_1g rfl ew35 (s_fa tf90_1 rfl) H fun v44_36 H => ?_
    refine VO_1g rfl ew35 (s_load1 ag3) H fun v45_37 H => ?_
    refine VO_1g rfl ew35 (s_fa tf28_1 rfl) H fun v46_38 H => ?_
    refine VO_1g rfl ew35 (s_load1 ag25) H fun v47_39 H => ?_
    refine VO_1g rfl ew35 (s_lenS ud25) H fun v48_40 H => ?_
    refine VO_1g rfl ew35 s_ibin H fun v49_41 H => ?_
    refine VO_1g rfl ew31 s_pk H fun v50_42 H => ?_
    refine VO_1 s_pk H fun v51_43 H => ?_
    refine VO_5 s_assign ?_
    refine VO_nil ?_
    refine kont_seq ?_
    refine obP_elim H fun b44 eb44 H => W_cond eb44 (bP_imp H (fun H => ?_) (fun H => ?_))
    · refine W_seq ?_
      refine W_plain ?_
      refine VO_5 s_move ?_
      refine VO_5 s_assign ?_
      refine VO_5 s_assign ?_
      refine VO_nil ?_
      refine kont_seq ?_
      refine W_ret ?_
      refine kont_block ?_
      refine kont_xs rfl ?_
      refine kont_block ?_
      refine kont_xs rfl ?_
      refine kont_xl rfl ?_
      refine kont_block ?_
      refine kont_xs rfl ?_
      exact ⟨rfl, obP_of (dres_mk (lm_cons rfl (lm_cons rfl lm_nil))) H⟩
    · refine W_seq ?_
      refine W_plain ?_
      refine VO_1 (s_fa tf90_0 rfl) H fun v54_45 H => ?_
      refine VO_1 (s_load1 ag4) H fun v55_46 H => ?_
      refine VO_5 s_assign ?_
      refine VO_nil ?_
      refine kont_seq ?_
      refine obP_elim H fun b47 eb47 H => W_cond eb47 (bP_imp H (fun H => ?_) (fun H => ?_))
      · refine W_seq ?_
        refine W_plain ?_
        refine VO_5 s_move ?_
        refine VO_1 (s_fa tf90_1 rfl) H fun v57_48 H => ?_
        refine VO_1 (s_load1 ag3) H fun v58_49 H => ?_
        refine VO_1 (s_iaS sl64 el64 sz4) H fun v59_50 H => ?_
        refine VO_3 (s_store sz4) H fun h51 H => ?_
        refine VO_nil ?_
        refine kont_seq ?_
        refine W_seq ?_
        refine W_plain ?_
        refine VO_5 s_move ?_
        refine VO_5 s_assign ?_
        refine VO_5 s_assign ?_
        refine VO_nil ?_
        refine kont_seq ?_
        refine W_ret ?_
        refine kont_block ?_
        refine kont_xs rfl ?_
        refine kont_block ?_
        refine kont_xs rfl ?_
        refine kont_xl rfl ?_
        refine kont_block ?_
        refine kont_xs rfl ?_
        exact ⟨rfl, obP_of (dres_mk (lm_cons rfl (lm_cons rfl lm_nil))) H⟩
      · refine W_skip ?_
        refine kont_block ?_
        refine kont_seq ?_
        refine W_seq ?_
        refine W_plain ?_
        refine VO_5 s_move ?_
        refine VO_5 s_move ?_
        refine VO_1 (s_fa tf90_1 rfl) H fun v63_52 H => ?_
        refine VO_1 (s_load1 ag3) H fun v64_53 H => ?_
        refine VO_1 (s_iaS sl65 el65 sz64) H fun v65_54 H => ?_
        refine VO_1 (s_load1 ag64) H fun v66_55 H => ?_
        refine VO_4 rfl H fun v67_56 h57 H => ?_
        refine VO_nil ?_
        refine kont_seq ?_
        refine W_seq ?_
        refine W_plain ?_
        refine VO_5 s_move ?_
        refine VO_1 (s_fa tf90_1 rfl) H fun v69_58 H => ?_
        refine VO_1 (s_load1 ag3) H fun v70_59 H => ?_
        refine VO_1 (s_iaS sl64 el64 sz4) H fun v71_60 H => ?_
        refine VO_1 (s_load1 ag4) H fun v72_61 H => ?_
        refine VO_1 s_not H fun v73_62 H => ?_
        refine VO_nil ?_
        refine kont_seq ?_
        refine obP_elim H fun b63 eb63 H => W_cond eb63 (bP_imp H (fun H => ?_) (fun H => ?_))
        · refine W_seq ?_
          refine W_plain ?_
          refine VO_5 s_move ?_
          refine VO_5 s_assign ?_
          refine VO_5 s_assign ?_
          refine VO_nil ?_
          refine kont_seq ?_
          refine W_ret ?_
          refine kont_block ?_
          refine kont_xs rfl ?_
          refine kont_xl rfl ?_
          refine kont_block ?_
          refine kont_xs rfl ?_
          exact ⟨rfl, obP_of (dres_mk (lm_cons rfl (lm_cons rfl lm_nil))) H⟩
        · refine W_skip ?_
          refine kont_block ?_
          refine kont_seq ?_
          refine W_plain ?_
          refine VO_1 s_ibin H fun v75_64 H => ?_
          refine VO_5 s_move ?_
          refine VO_nil ?_
          exact kont_loop (H _ rfl rfl rfl rfl rfl rfl rfl)
  · refine W_exit ?_
    refine kont_xs rfl ?_
    refine kont_xl rfl ?_
    refine kont_block ?_
    refine kont_seq ?_
    refine W_seq ?_
    refine W_plain ?_
    refine VO_5 s_move ?_
    refine VO_5 s_assign ?_
    refine VO_5 s_assign ?_
    refine VO_nil ?_
    refine kont_seq ?_
    refine W_ret ?_
    exact ⟨rfl, obP_of (dres_mk (lm_cons rfl (lm_cons rfl lm_nil))) H⟩

-- lemmata/first.First$1
noncomputable def body79 : Code := Cd.bO Try.f79
theorem df79 : dfunc Try.prog 79 = some ⟨Try.f79, body79⟩ := by kernel_rfl
def A79_1 (v0 v1 v2 v3 v9 v10 v11 : Value) (h : DH) (Z : Value → DH → Prop) : Prop := ∀ a : DA, DA.val a 0 = v0 → DA.val a 1 = v1 → DA.val a 2 = v2 → DA.val a 3 = v3 → DA.val a 9 = v9 → DA.val a 10 = v10 → DA.val a 11 = v11 → W Try.prog (Cd.bB (Cd.sR (Cd.sL (Cd.sR body79)))) a h (kont Try.prog [.block 0, .seq (Cd.sR (Cd.sR body79))] (Fin Try.prog Try.f79 Z))
theorem R79 {v0 v1 v2 : Value} {h : DH} {Z : Value → DH → Prop} (H : obP (fa 2 v0) fun v8_1 => obP (ld1 h v8_1) fun v9_2 => obP (lenS v9_2) fun v10_3 => A79_1 v0 v1 v2 (Value.bool false) v9_2 v10_3 (Value.int .i64 0) h Z) : CP Try.prog 79 [v0, v1, v2] h Z := by
  refine CP_of df79 ?_
  refine W_seq ?_
  refine W_plain ?_
  refine VO_5 s_assign ?_
  refine VO_nil ?_
  refine kont_seq ?_
  refine W_seq ?_
  refine W_seq ?_
  refine W_plain ?_
  refine VO_1 (s_fa tf28_2 rfl) H fun v8_1 H => ?_
  refine VO_1 (s_load1 ag26) H fun v9_2 H => ?_
  refine VO_1 (s_lenS ud26) H fun v10_3 H => ?_
  refine VO_5 s_move ?_
  refine VO_nil ?_
  refine kont_seq ?_
  refine W_block ?_
  exact H _ rfl rfl rfl rfl rfl rfl rfl

theorem R79_1 {v0 v1 v2 v3 v9 v10 v11 : Value} {h : DH} {Z : Value → DH → Prop} (H : obP (ibin .lss v11 v10) fun v12_4 => obP (asB v12_4) fun b5 => bP b5 (obP (iaS 3 v9 v11) fun v13_6 => obP (ldN 3 h v13_6) fun v14_7 => oh (al 37 [(Value.int .i64 0), (Value.slice none 0 0), (Value.slice none 0 0)] h) fun v5_8 h9 => obP (st 3 h9 v5_8 v14_7) fun h10 => obP (ldN 3 h10 v0) fun v16_11 => obP (ld1 h10 v1) fun v17_12 => obP (ld1 h10 v2) fun v18_13 => obP (fa 1 v5_8) fun v19_14 => obP (ld1 h10 v19_14) fun v20_15 => CP Try.prog 80 [v16_11, v17_12, v18_13, v20_15] h10 fun v21_16 h17 => obP (ext1 v21_16 0) fun v22_18 => obP (ext1 v21_16 1) fun v23_19 => obP (ld1 h17 v2) fun v24_20 => obP (fa 0 v5_8) fun v25_21 => obP (ld1 h17 v25_21) fun v26_22 => obP (iaS 1 v24_20 v26_22) fun v27_23 => obP (ld1 h17 v27_23) fun v28_24 => CP Try.prog 81 [v28_24, v22_18] h17 fun v30_25 h26 => obP (asB v30_25) fun b27 => bP b27 (obP (ibin .add v11 (Value.int .i64 1)) fun v31_28 => A79_1 v0 v1 v2 (Value.bool true) v9 v10 v31_28 h26 Z) (obP (ibin .add v11 (Value.int .i64 1)) fun v31_29 => A79_1 v0 v1 v2 v3 v9 v10 v31_29 h26 Z)) (Z v3 h)) : A79_1 v0 v1 v2 v3 v9 v10 v11 h Z := by
  intro a e0 e1 e2 e3 e9 e10 e11
  subst e0 e1 e2 e3 e9 e10 e11
  refine W_loop ?_
  refine W_seq ?_
  refine W_plain ?_
  refine VO_1 s_ibin H fun v12_4 H => ?_
  refine VO_nil ?_
  refine kont_seq ?_
  refine W_seq ?_
  refine obP_elim H fun b5 eb5 H => W_cond eb5 (bP_imp H (fun H => ?_) (fun H => ?_))
  · refine W_skip ?_
    refine kont_seq ?_
    refine W_seq ?_
    refine W_block ?_
    refine W_seq ?_
    refine W_plain ?_
    refine VO_1 (s_iaS sl26 el26 sz37) H fun v13_6 H => ?_
    refine VO_1 (s_loadN ag37 sz37) H fun v14_7 H => ?_
    refine VO_2 (s_al zc37) H fun v5_8 h9 H => ?_
    refine VO_3 (s_store sz37) H fun h10 H => ?_
    refine VO_nil ?_
    refine kont_seq ?_
    refine W_seq ?_
    refine W_plain ?_
    refine VO_1 (s_loadN ag28 sz28) H fun v16_11 H => ?_
    refine VO_1 (s_load1 ag64) H fun v17_12 H => ?_
    refine VO_1 (s_load1 ag65) H fun v18_13 H => ?_
    refine VO_1 (s_fa tf37_1 rfl) H fun v19_14 H => ?_
    refine VO_1 (s_load1 ag34) H fun v20_15 H => ?_
    refine VO_4 rfl H fun v21_16 h17 H => ?_
    refine VO_5 s_move ?_
    refine VO_1 s_ext H fun v22_18 H => ?_
    refine VO_1 s_ext H fun v23_19 H => ?_
    refine VO_5 s_assign ?_
    refine VO_5 s_assign ?_
    refine VO_nil ?_
    refine kont_seq ?_
    refine W_seq ?_
    refine W_plain ?_
    refine VO_1 (s_load1 ag65) H fun v24_20 H => ?_
    refine VO_1 (s_fa tf37_0 rfl) H fun v25_21 H => ?_
    refine VO_1 (s_load1 ag3) H fun v26_22 H => ?_
    refine VO_1 (s_iaS sl65 el65 sz64) H fun v27_23 H => ?_
    refine VO_1 (s_load1 ag64) H fun v28_24 H => ?_
    refine VO_5 s_move ?_
    refine VO_4 rfl H fun v30_25 h26 H => ?_
    refine VO_nil ?_
    refine kont_seq ?_
    refine obP_elim H fun b27 eb27 H => W_cond eb27 (bP_imp H (fun H => ?_) (fun H => ?_))
    · refine W_plain ?_
      refine VO_5 s_assign ?_
      refine VO_nil ?_
      refine kont_block ?_
      refine kont_seq ?_
      refine W_plain ?_
      refine VO_1 s_ibin H fun v31_28 H => ?_
      refine VO_5 s_move ?_
      refine VO_nil ?_
      exact kont_loop (H _ rfl rfl rfl rfl rfl rfl rfl)
    · refine W_skip ?_
      refine kont_block ?_
      refine kont_seq ?_
      refine W_plain ?_
      refine VO_1 s_ibin H fun v31_29 H => ?_
      refine VO_5 s_move ?_
      refine VO_nil ?_
      exact kont_loop (H _ rfl rfl rfl rfl rfl rfl rfl)
  · refine W_exit ?_
    refine kont_xs rfl ?_
    refine kont_xl rfl ?_
    refine kont_block ?_
    refine kont_seq ?_
    refine W_seq ?_
    refine W_plain ?_
    refine VO_5 s_move ?_
    refine VO_5 s_assign ?_
    refine VO_nil ?_
    refine kont_seq ?_
    refine W_ret ?_
    exact ⟨rfl, obP_of (dres_mk (lm_cons rfl lm_nil)) H⟩

-- lemmata/first.First
noncomputable def body37 : Code := Cd.bO Try.f37
theorem df37 : dfunc Try.prog 37 = some ⟨Try.f37, body37⟩ := by kernel_rfl
theorem dp37_3 : drawPairs (Cd.rO (Cd.sL (Cd.sR (Cd.sR body37)))) = some [(1, 3), (1, 4), (1, 6), (1, 7)] := by kernel_rfl
theorem R37 {v0 : Value} {h : DH} {Z : Value → DH → Prop} (H : oh (bx 28 h v0) fun v1_1 h2 => obP (ldN 3 h2 v1_1) fun v5_3 => CP Try.prog 49 [v5_3] h2 fun v6_4 h5 => obP (bnot v6_4) fun v7_6 => obP (asB v7_6) fun b7 => bP b7 (Z (Value.slice none 0 0) h5) (obP (ldN 3 h5 v1_1) fun v8_8 => CP Try.prog 35 [v8_8] (reset h5) fun v9_9 h10 => obP (fa 1 v1_1) fun v10_11 => obP (ld1 (lowered h10 h5.low) v10_11) fun v11_12 => obP (lenS v11_12) fun v12_13 => obP (fa 0 v1_1) fun v13_14 => obP (ld1 (lowered h10 h5.low) v13_14) fun v14_15 => obP (lenS v14_15) fun v15_16 => CP Try.prog 78 [v12_13, v15_16] (reset (lowered h10 h5.low)) fun v16_17 h18 => oh (al 64 [(Value.slice none 0 0)] (lowered h18 (lowered h10 h5.low).low)) fun v3_19 h20 => oh (al 65 [(Value.slice none 0 0)] h20) fun v4_21 h22 => obP (st 1 h22 v3_19 v9_9) fun h23 => obP (st 1 h23 v4_21 v16_17) fun h24 => (either (callFoot h5 h10) ⟨some (blockOf v10_11), .none⟩ = true ∧ either (callFoot h5 h10) ⟨some (blockOf v11_12), .none⟩ = true ∧ either (callFoot h5 h10) ⟨some (blockOf v13_14), .none⟩ = true ∧ either (callFoot h5 h10) ⟨some (blockOf v14_15), .none⟩ = true) ∧ (CP Try.prog 73 [(Value.func (.func 79) ⟨[]⟩ ⟨[v1_1, v3_19, v4_21]⟩)] h24 fun v18_25 h26 => obP (ld1 h26 v4_21) fun v19_27 => Z v19_27 h26))) : CP Try.prog 37 [v0] h Z := by
  refine CP_of df37 ?_
  refine W_seq ?_
  refine W_plain ?_
  refine VO_2 s_box H fun v1_1 h2 H => ?_
  refine VO_5 s_assign ?_
  refine VO_nil ?_
  refine kont_seq ?_
  refine W_seq ?_
  refine W_seq ?_
  refine W_plain ?_
  refine VO_1 (s_loadN ag28 sz28) H fun v5_3 H => ?_
  refine VO_4 rfl H fun v6_4 h5 H => ?_
  refine VO_1 s_not H fun v7_6 H => ?_
  refine VO_nil ?_
  refine kont_seq ?_
  refine obP_elim H fun b7 eb7 H => W_cond eb7 (bP_imp H (fun H => ?_) (fun H => ?_))
  · refine W_seq ?_
    refine W_plain ?_
    refine VO_5 s_assign ?_
    refine VO_nil ?_
    refine kont_seq ?_
    refine W_ret ?_
    refine kont_xs rfl ?_
    exact ⟨rfl, obP_of (dres_mk (lm_cons rfl lm_nil)) H⟩
  · refine W_skip ?_
    refine kont_seq ?_
    refine W_seq ?_
    refine W_drawF dp37_3 ?_
    refine VF_1 rfl (s_loadN ag28 sz28) H fun v8_8 H => ?_
    refine VF_4 rfl rfl H fun v9_9 h10 H => ?_
    refine VF_1 rfl (s_fa tf28_1 rfl) H fun v10_11 H => ?_
    refine VF_1 rfl (s_load1 ag25) H fun v11_12 H => ?_
    refine VF_1 rfl (s_lenS ud25) H fun v12_13 H => ?_
    refine VF_1 rfl (s_fa tf28_0 rfl) H fun v13_14 H => ?_
    refine VF_1 rfl (s_load1 ag24) H fun v14_15 H => ?_
    refine VF_1 rfl (s_lenS ud24) H fun v15_16 H => ?_
    refine VF_4 rfl rfl H fun v16_17 h18 H => ?_
    refine VF_2 rfl (s_al zc64) H fun v3_19 h20 H => ?_
    refine VF_2 rfl (s_al zc65) H fun v4_21 h22 H => ?_
    refine VF_3 rfl (s_store sz64) H fun h23 H => ?_
    refine VF_3 rfl (s_store sz65) H fun h24 H => ?_
    refine VF_nil ?_
    refine ⟨eA_cons H.1.1 (eA_cons H.1.2.1 (eA_cons H.1.2.2.1 (eA_cons H.1.2.2.2 eA_nil))), ?_⟩
    replace H := H.2
    refine kont_seq ?_
    refine W_seq ?_
    refine W_plain ?_
    refine VO_5 s_makeFunc ?_
    refine VO_4 rfl H fun v18_25 h26 H => ?_
    refine VO_nil ?_
    refine kont_seq ?_
    refine W_seq ?_
    refine W_plain ?_
    refine VO_1 (s_load1 ag65) H fun v19_27 H => ?_
    refine VO_5 s_assign ?_
    refine VO_nil ?_
    refine kont_seq ?_
    refine W_ret ?_
    exact ⟨rfl, obP_of (dres_mk (lm_cons rfl lm_nil)) H⟩

-- lemmata/first.Follow$1
noncomputable def body82 : Code := Cd.bO Try.f82
theorem df82 : dfunc Try.prog 82 = some ⟨Try.f82, body82⟩ := by kernel_rfl
theorem dp82_8 : drawPairs (Cd.rO (Cd.sL (Cd.sR (Cd.sR (Cd.bB (Cd.sL (Cd.sR (Cd.sR (Cd.lB (Cd.bB (Cd.sR (Cd.sR (Cd.bB (Cd.sL (Cd.sR (Cd.sR (Cd.lB (Cd.bB (Cd.sR (Cd.sL (Cd.sR body82))))))))))))))))))))) = some [] := by kernel_rfl
theorem dp82_9 : drawPairs (Cd.rO (Cd.sL (Cd.sR (Cd.sR (Cd.sR (Cd.bB (Cd.sL (Cd.sR (Cd.sR (Cd.lB (Cd.bB (Cd.sR (Cd.sR (Cd.bB (Cd.sL (Cd.sR (Cd.sR (Cd.lB (Cd.bB (Cd.sR (Cd.sL (Cd.sR body82)))))))))))))))))))))) = some [] := by kernel_rfl
def A82_1 (v0 v1 v2 v3 v4 v12 v13 v14 : Value) (h : DH) (Z : Value → DH → Prop) : Prop := ∀ a : DA, DA.val a 0 = v0 → DA.val a 1 = v1 → DA.val a 2 = v2 → DA.val a 3 = v3 → DA.val a 4 = v4 → DA.val a 12 = v12 → DA.val a 13 = v13 → DA.val a 14 = v14 → W Try.prog (Cd.bB (Cd.sR (Cd.sL (Cd.sR body82)))) a h (kont Try.prog [.block 0, .seq (Cd.sR (Cd.sR body82))] (Fin Try.prog Try.f82 Z))
def A82_2 (v0 v1 v2 v3 v4 v6 v12 v13 v14 v19 v20 v21 : Value) (h : DH) (Z : Value → DH → Prop) : Prop := ∀ a : DA, DA.val a 0 = v0 → DA.val a 1 = v1 → DA.val a 2 = v2 → DA.val a 3 = v3 → DA.val a 4 = v4 → DA.val a 6 = v6 → DA.val a 12 = v12 → DA.val a 13 = v13 → DA.val a 14 = v14 → DA.val a 19 = v19 → DA.val a 20 = v20 → DA.val a 21 = v21 → W Try.prog (Cd.bB (Cd.sR (Cd.sR (Cd.bB (Cd.sL (Cd.sR (Cd.sR (Cd.lB (Cd.bB (Cd.sR (Cd.sL (Cd.sR body82)))))))))))) a h (kont Try.prog [.block 2, .block 1, .seq (Cd.sR (Cd.sR (Cd.sR (Cd.lB (Cd.bB (Cd.sR (Cd.sL (Cd.sR body82)))))))), .loop (Cd.lB (Cd.bB (Cd.sR (Cd.sL (Cd.sR body82))))), .block 0, .seq (Cd.sR (Cd.sR body82))] (Fin Try.prog Try.f82 Z))
theorem R82 {v0 v1 v2 v3 : Value} {h : DH} {Z : Value → DH → Prop} (H : obP (fa 2 v0) fun v11_1 => obP (ld1 h v11_1) fun v12_2 => obP (lenS v12_2) fun v13_3 => A82_1 v0 v1 v2 v3 (Value.bool false) v12_2 v13_3 (Value.int .i64 0) h Z) : CP Try.prog 82 [v0, v1, v2, v3] h Z := by
  refine CP_of df82 ?_
  refine W_seq ?_
  refine W_plain ?_
  refine VO_5 s_assign ?_
  refine VO_nil ?_
  refine kont_seq ?_
  refine W_seq ?_
  refine W_seq ?_
  refine W_plain ?_
  refine VO_1 (s_fa tf28_2 rfl) H fun v11_1 H => ?_
  refine VO_1 (s_load1 ag26) H fun v12_2 H => ?_
  refine VO_1 (s_lenS ud26) H fun v13_3 H => ?_
  refine VO_5 s_move ?_
  refine VO_nil ?_
  refine kont_seq ?_
  refine W_block ?_
  exact H _ rfl rfl rfl rfl rfl rfl rfl rfl

theorem R82_1 {v0 v1 v2 v3 v4 v12 v13 v14 : Value} {h : DH} {Z : Value → DH → Prop} (H : obP (ibin .lss v14 v13) fun v15_4 => obP (asB v15_4) fun b5 => bP b5 (obP (iaS 3 v12 v14) fun v16_6 => obP (ldN 3 h v16_6) fun v17_7 => oh (al 37 [(Value.int .i64 0), (Value.slice none 0 0), (Value.slice none 0 0)] h) fun v6_8 h9 => obP (st 3 h9 v6_8 v17_7) fun h10 => obP (fa 1 v6_8) fun v18_11 => obP (ld1 h10 v18_11) fun v19_12 => obP (lenS v19_12) fun v20_13 => A82_2 v0 v1 v2 v3 v4 v6_8 v12 v13 v14 v19_12 v20_13 (Value.int .i64 0) h10 Z) (Z v4 h)) : A82_1 v0 v1 v2 v3 v4 v12 v13 v14 h Z := by
  intro a e0 e1 e2 e3 e4 e12 e13 e14
  subst e0 e1 e2 e3 e4 e12 e13 e14
  refine W_loop ?_
  refine W_seq ?_
  refine W_plain ?_
  refine VO_1 s_ibin H fun v15_4 H => ?_
  refine VO_nil ?_
  refine kont_seq ?_
  refine W_seq ?_
  refine obP_elim H fun b5 eb5 H => W_cond eb5 (bP_imp H (fun H => ?_) (fun H => ?_))
  · refine W_skip ?_
    refine kont_seq ?_
    refine W_seq ?_
    refine W_block ?_
    refine W_seq ?_
    refine W_plain ?_
    refine VO_1 (s_iaS sl26 el26 sz37) H fun v16_6 H => ?_
    refine VO_1 (s_loadN ag37 sz37) H fun v17_7 H => ?_
    refine VO_2 (s_al zc37) H fun v6_8 h9 H => ?_
    refine VO_3 (s_store sz37) H fun h10 H => ?_
    refine VO_nil ?_
    refine kont_seq ?_
    refine W_seq ?_
    refine W_plain ?_
    refine VO_1 (s_fa tf37_1 rfl) H fun v18_11 H => ?_
    refine VO_1 (s_load1 ag34) H fun v19_12 H => ?_
    refine VO_1 (s_lenS ud34) H fun v20_13 H => ?_
    refine VO_5 s_move ?_
    refine VO_nil ?_
    refine kont_seq ?_
    refine W_block ?_
    exact H _ rfl rfl rfl rfl rfl rfl rfl rfl rfl rfl rfl rfl
  · refine W_exit ?_
    refine kont_xs rfl ?_
    refine kont_xl rfl ?_
    refine kont_block ?_
    refine kont_seq ?_
    refine W_seq ?_
    refine W_plain ?_
    refine VO_5 s_move ?_
    refine VO_5 s_assign ?_
    refine VO_nil ?_
    refine kont_seq ?_
    refine W_ret ?_
    exact ⟨rfl, obP_of (dres_mk (lm_cons rfl lm_nil)) H⟩

theorem R82_2 {v0 v1 v2 v3 v4 v6 v12 v13 v14 v19 v20 v21 : Value} {h : DH} {Z : Value → DH → Prop} (H : obP (ibin .lss v21 v20) fun v22_14 => obP (asB v22_14) fun b15 => bP b15 (obP (iaS 2 v19 v21) fun v24_16 => obP (ldN 2 h v24_16) fun v25_17 => oh (al 90 [(Value.bool false), (Value.int .i64 0)] h) fun v8_18 h19 => obP (st 2 h19 v8_18 v25_17) fun h20 => obP (fa 0 v8_18) fun v26_21 => obP (ld1 h20 v26_21) fun v27_22 => obP (asB v27_22) fun b23 => bP b23 (obP (ibin .add v21 (Value.int .i64 1)) fun v63_24 => A82_2 v0 v1 v2 v3 v4 v6 v12 v13 v14 v19 v20 v63_24 h20 Z) (obP (ldN 3 h20 v0) fun v29_25 => obP (ld1 h20 v1) fun v30_26 => obP (ld1 h20 v2) fun v31_27 => obP (fa 1 v6) fun v32_28 => obP (ld1 h20 v32_28) fun v33_29 => obP (ibin .add v21 (Value.int .i64 1)) fun v35_30 => obP (slS 90 2 h20 v33_29 (some v35_30) none) fun v36_31 => CP Try.prog 80 [v29_25, v30_26, v31_27, v36_31] h20 fun v37_32 h33 => obP (ext1 v37_32 0) fun v38_34 => obP (ext1 v37_32 1) fun v39_35 => obP (ld1 h33 v3) fun v40_36 => obP (fa 1 v8_18) fun v41_37 => obP (ld1 h33 v41_37) fun v42_38 => obP (iaS 1 v40_36 v42_38) fun v43_39 => obP (ld1 h33 v43_39) fun v44_40 => CP Try.prog 81 [v44_40, v38_34] h33 fun v46_41 h42 => obP (gotB v46_41 false) fun w43 => obP (gotB (sel w43 (sel w43 v39_35 undef) undef) true) fun w44 => g1 w44 (ld1 h42 v3) fun v50_45 => g1 w44 (fa 1 v8_18) fun v51_46 => g1 w44 (ld1 h42 v51_46) fun v52_47 => g1 w44 (iaS 1 v50_45 v52_47) fun v53_48 => g1 w44 (ld1 h42 v53_48) fun v54_49 => g1 w44 (ld1 h42 v3) fun v55_50 => g1 w44 (fa 0 v6) fun v56_51 => g1 w44 (ld1 h42 v56_51) fun v57_52 => g1 w44 (iaS 1 v55_50 v57_52) fun v58_53 => g1 w44 (ld1 h42 v58_53) fun v59_54 => g4 Try.prog w44 81 [v54_49, v59_54] h42 fun v60_55 h56 => g1 w43 (pk (sel w43 (sel w43 v39_35 undef) undef) v60_55 (Value.bool false)) fun v61_57 => obP (pk v46_41 (Value.bool true) v61_57) fun v62_58 => obP (asB v62_58) fun b59 => bP b59 (obP (ibin .add v21 (Value.int .i64 1)) fun v63_60 => A82_2 v0 v1 v2 v3 (Value.bool true) v6 v12 v13 v14 v19 v20 v63_60 h56 Z) (obP (ibin .add v21 (Value.int .i64 1)) fun v63_61 => A82_2 v0 v1 v2 v3 v4 v6 v12 v13 v14 v19 v20 v63_61 h56 Z))) (obP (ibin .add v14 (Value.int .i64 1)) fun v64_62 => A82_1 v0 v1 v2 v3 v4 v12 v13 v64_62 h Z)) : A82_2 v0 v1 v2 v3 v4 v6 v12 v13 v14 v19 v20 v21 h Z := by
  intro a e0 e1 e2 e3 e4 e6 e12 e13 e14 e19 e20 e21
  subst e0 e1 e2 e3 e4 e6 e12 e13 e14 e19 e20 e21
  refine W_loop ?_
  refine W_seq ?_
  refine W_plain ?_
  refine VO_1 s_ibin H fun v22_14 H => ?_
  refine VO_nil ?_
  refine kont_seq ?_
  refine W_seq ?_
  refine obP_elim H fun b15 eb15 H => W_cond eb15 (bP_imp H (fun H => ?_) (fun H => ?_))
  · refine W_skip ?_
    refine kont_seq ?_
    refine W_seq ?_
    refine W_block ?_
    refine W_seq ?_
    refine W_plain ?_
    refine VO_5 s_move ?_
    refine VO_1 (s_iaS sl34 el34 sz90) H fun v24_16 H => ?_
    refine VO_1 (s_loadN ag90 sz90) H fun v25_17 H => ?_
    refine VO_2 (s_al zc90) H fun v8_18 h19 H => ?_
    refine VO_5 s_assign ?_
    refine VO_3 (s_store sz90) H fun h20 H => ?_
    refine VO_nil ?_
    refine kont_seq ?_
    refine W_seq ?_
    refine W_seq ?_
    refine W_plain ?_
    refine VO_1 (s_fa tf90_0 rfl) H fun v26_21 H => ?_
    refine VO_1 (s_load1 ag4) H fun v27_22 H => ?_
    refine VO_nil ?_
    refine kont_seq ?_
    refine obP_elim H fun b23 eb23 H => W_cond eb23 (bP_imp H (fun H => ?_) (fun H => ?_))
    · refine W_exit ?_
      refine kont_xs rfl ?_
      refine kont_block ?_
      refine kont_seq ?_
      refine W_plain ?_
      refine VO_1 s_ibin H fun v63_24 H => ?_
      refine VO_5 s_move ?_
      refine VO_nil ?_
      exact kont_loop (H _ rfl rfl rfl rfl rfl rfl rfl rfl rfl rfl rfl rfl)
    · refine W_skip ?_
      refine kont_seq ?_
      refine W_seq ?_
      refine W_draw dp82_8 ?_
      refine VO_1 (s_loadN ag28 sz28) H fun v29_25 H => ?_
      refine VO_1 (s_load1 ag64) H fun v30_26 H => ?_
      refine VO_1 (s_load1 ag65) H fun v31_27 H => ?_
      refine VO_1 (s_fa tf37_1 rfl) H fun v32_28 H => ?_
      refine VO_1 (s_load1 ag34) H fun v33_29 H => ?_
      refine VO_5 s_move ?_
      refine VO_1 s_ibin H fun v35_30 H => ?_
      refine VO_1 (s_slS ts34 el34 sz90) H fun v36_31 H => ?_
      refine VO_4 rfl H fun v37_32 h33 H => ?_
      refine VO_5 s_move ?_
      refine VO_1 s_ext H fun v38_34 H => ?_
      refine VO_1 s_ext H fun v39_35 H => ?_
      refine VO_5 s_assign ?_
      refine VO_5 s_assign ?_
      refine VO_nil ?_
      refine kont_seq ?_
      refine W_seq ?_
      refine W_draw dp82_9 ?_
      refine VO_1 (s_load1 ag65) H fun v40_36 H => ?_
      refine VO_1 (s_fa tf90_1 rfl) H fun v41_37 H => ?_
      refine VO_1 (s_load1 ag3) H fun v42_38 H => ?_
      refine VO_1 (s_iaS sl65 el65 sz64) H fun v43_39 H => ?_
      refine VO_1 (s_load1 ag64) H fun v44_40 H => ?_
      refine VO_5 s_move ?_
      refine VO_4 rfl H fun v46_41 h42 H => ?_
      refine VO_5 s_move ?_
      refine obP_elim H fun w43 ew43 H => ?_
      refine VO_5m rfl ew43 s_move ?_
      refine VO_5m rfl ew43 s_move ?_
      refine obP_elim H fun w44 ew44 H => ?_
      refine VO_1g rfl ew44 (s_load1 ag65) H fun v50_45 H => ?_
      refine VO_1g rfl ew44 (s_fa tf90_1 rfl) H fun v51_46 H => ?_
      refine VO_1g rfl ew44 (s_load1 ag3) H fun v52_47 H => ?_
      refine VO_1g rfl ew44 (s_iaS sl65 el65 sz64) H fun v53_48 H => ?_
      refine VO_1g rfl ew44 (s_load1 ag64) H fun v54_49 H => ?_
      refine VO_1g rfl ew44 (s_load1 ag65) H fun v55_50 H => ?_
      refine VO_1g rfl ew44 (s_fa tf37_0 rfl) H fun v56_51 H => ?_
      refine VO_1g rfl ew44 (s_load1 ag3) H fun v57_52 H => ?_
      refine VO_1g rfl ew44 (s_iaS sl65 el65 sz64) H fun v58_53 H => ?_
      refine VO_1g rfl ew44 (s_load1 ag64) H fun v59_54 H => ?_
      refine VO_4g rfl ew44 rfl H fun v60_55 h56 H => ?_
      refine VO_1g rfl ew43 s_pk H fun v61_57 H => ?_
      refine VO_1 s_pk H fun v62_58 H => ?_
      refine VO_nil ?_
      refine kont_seq ?_
      refine obP_elim H fun b59 eb59 H => W_cond eb59 (bP_imp H (fun H => ?_) (fun H => ?_))
      · refine W_plain ?_
        refine VO_5 s_assign ?_
        refine VO_nil ?_
        refine kont_block ?_
        refine kont_seq ?_
        refine W_plain ?_
        refine VO_1 s_ibin H fun v63_60 H => ?_
        refine VO_5 s_move ?_
        refine VO_nil ?_
        exact kont_loop (H _ rfl rfl rfl rfl rfl rfl rfl rfl rfl rfl rfl rfl)
      · refine W_skip ?_
        refine kont_block ?_
        refine kont_seq ?_
        refine W_plain ?_
        refine VO_1 s_ibin H fun v63_61 H => ?_
        refine VO_5 s_move ?_
        refine VO_nil ?_
        exact kont_loop (H _ rfl rfl rfl rfl rfl rfl rfl rfl rfl rfl rfl rfl)
  · refine W_exit ?_
    refine kont_xs rfl ?_
    refine kont_xl rfl ?_
    refine kont_block ?_
    refine kont_block ?_
    refine kont_seq ?_
    refine W_plain ?_
    refine VO_1 s_ibin H fun v64_62 H => ?_
    refine VO_5 s_move ?_
    refine VO_nil ?_
    exact kont_loop (H _ rfl rfl rfl rfl rfl rfl rfl rfl)

-- lemmata/first.Follow
noncomputable def body38 : Code := Cd.bO Try.f38
theorem df38 : dfunc Try.prog 38 = some ⟨Try.f38, body38⟩ := by kernel_rfl
theorem dp38_3 : drawPairs (Cd.rO (Cd.sL (Cd.sR (Cd.sR body38)))) = some [(1, 2), (1, 5), (3, 5), (1, 6), (3, 6), (1, 8), (3, 8), (1, 9), (3, 9)] := by kernel_rfl
theorem dp38_4 : drawPairs (Cd.rO (Cd.sL (Cd.sR (Cd.sR (Cd.sR body38))))) = some [] := by kernel_rfl
theorem R38 {v0 : Value} {h : DH} {Z : Value → DH → Prop} (H : oh (bx 28 h v0) fun v1_1 h2 => obP (ldN 3 h2 v1_1) fun v6_3 => CP Try.prog 49 [v6_3] h2 fun v7_4 h5 => obP (bnot v7_4) fun v8_6 => obP (asB v8_6) fun b7 => bP b7 (Z (Value.slice none 0 0) h5) (obP (ldN 3 h5 v1_1) fun v9_8 => CP Try.prog 35 [v9_8] (reset h5) fun v10_9 h10 => obP (ldN 3 (lowered h10 h5.low) v1_1) fun v11_11 => CP Try.prog 37 [v11_11] (reset (lowered h10 h5.low)) fun v12_12 h13 => obP (fa 1 v1_1) fun v13_14 => obP (ld1 (lowered h13 (lowered h10 h5.low).low) v13_14) fun v14_15 => obP (lenS v14_15) fun v15_16 => obP (fa 0 v1_1) fun v16_17 => obP (ld1 (lowered h13 (lowered h10 h5.low).low) v16_17) fun v17_18 => obP (lenS v17_18) fun v18_19 => obP (ibin .add v18_19 (Value.int .i64 1)) fun v19_20 => CP Try.prog 78 [v15_16, v19_20] (reset (lowered h13 (lowered h10 h5.low).low)) fun v20_21 h22 => oh (al 64 [(Value.slice none 0 0)] (lowered h22 (lowered h13 (lowered h10 h5.low).low).low)) fun v3_23 h24 => oh (al 65 [(Value.slice none 0 0)] h24) fun v4_25 h26 => oh (al 65 [(Value.slice none 0 0)] h26) fun v5_27 h28 => obP (st 1 h28 v3_23 v10_9) fun h29 => obP (st 1 h29 v4_25 v12_12) fun h30 => obP (st 1 h30 v5_27 v20_21) fun h31 => (either (callFoot h5 h10) ⟨some (blockOf v1_1), .none⟩ = true ∧ either (callFoot h5 h10) ⟨some (blockOf v13_14), .none⟩ = true ∧ either (callFoot (lowered h10 h5.low) h13) ⟨some (blockOf v13_14), .none⟩ = true ∧ either (callFoot h5 h10) ⟨some (blockOf v14_15), .none⟩ = true ∧ either (callFoot (lowered h10 h5.low) h13) ⟨some (blockOf v14_15), .none⟩ = true ∧ either (callFoot h5 h10) ⟨some (blockOf v16_17), .none⟩ = true ∧ either (callFoot (lowered h10 h5.low) h13) ⟨some (blockOf v16_17), .none⟩ = true ∧ either (callFoot h5 h10) ⟨some (blockOf v17_18), .none⟩ = true ∧ either (callFoot (lowered h10 h5.low) h13) ⟨some (blockOf v17_18), .none⟩ = true) ∧ (obP (ld1 h31 v5_27) fun v21_32 => obP (iaS 1 v21_32 (Value.int .i64 0)) fun v22_33 => obP (ld1 h31 v22_33) fun v23_34 => obP (fa 0 v1_1) fun v24_35 => obP (ld1 h31 v24_35) fun v25_36 => obP (lenS v25_36) fun v26_37 => obP (iaS 1 v23_34 v26_37) fun v27_38 => obP (st 1 h31 v27_38 (Value.bool true)) fun h39 => CP Try.prog 73 [(Value.func (.func 82) ⟨[]⟩ ⟨[v1_1, v3_23, v4_25, v5_27]⟩)] h39 fun v29_40 h41 => obP (ld1 h41 v5_27) fun v30_42 => Z v30_42 h41))) : CP Try.prog 38 [v0] h Z := by
  refine CP_of df38 ?_
  refine W_seq ?_
  refine W_plain ?_
  refine VO_2 s_box H fun v1_1 h2 H => ?_
  refine VO_5 s_assign ?_
  refine VO_nil ?_
  refine kont_seq ?_
  refine W_seq ?_
  refine W_seq ?_
  refine W_plain ?_
  refine VO_1 (s_loadN ag28 sz28) H fun v6_3 H => ?_
  refine VO_4 rfl H fun v7_4 h5 H => ?_
  refine VO_1 s_not H fun v8_6 H => ?_
  refine VO_nil ?_
  refine kont_seq ?_
  refine obP_elim H fun b7 eb7 H => W_cond eb7 (bP_imp H (fun H => ?_) (fun H => ?_))
  · refine W_seq ?_
    refine W_plain ?_
    refine VO_5 s_assign ?_
    refine VO_nil ?_
    refine kont_seq ?_
    refine W_ret ?_
    refine kont_xs rfl ?_
    exact ⟨rfl, obP_of (dres_mk (lm_cons rfl lm_nil)) H⟩
  · refine W_skip ?_
    refine kont_seq ?_
    refine W_seq ?_
    refine W_drawF dp38_3 ?_
    refine VF_1 rfl (s_loadN ag28 sz28) H fun v9_8 H => ?_
    refine VF_4 rfl rfl H fun v10_9 h10 H => ?_
    refine VF_1 rfl (s_loadN ag28 sz28) H fun v11_11 H => ?_
    refine VF_4 rfl rfl H fun v12_12 h13 H => ?_
    refine VF_1 rfl (s_fa tf28_1 rfl) H fun v13_14 H => ?_
    refine VF_1 rfl (s_load1 ag25) H fun v14_15 H => ?_
    refine VF_1 rfl (s_lenS ud25) H fun v15_16 H => ?_
    refine VF_1 rfl (s_fa tf28_0 rfl) H fun v16_17 H => ?_
    refine VF_1 rfl (s_load1 ag24) H fun v17_18 H => ?_
    refine VF_1 rfl (s_lenS ud24) H fun v18_19 H => ?_
    refine VF_1 rfl s_ibin H fun v19_20 H => ?_
    refine VF_4 rfl rfl H fun v20_21 h22 H => ?_
    refine VF_2 rfl (s_al zc64) H fun v3_23 h24 H => ?_
    refine VF_2 rfl (s_al zc65) H fun v4_25 h26 H => ?_
    refine VF_2 rfl (s_al zc65) H fun v5_27 h28 H => ?_
    refine VF_3 rfl (s_store sz64) H fun h29 H => ?_
    refine VF_3 rfl (s_store sz65) H fun h30 H => ?_
    refine VF_3 rfl (s_store sz65) H fun h31 H => ?_
    refine VF_nil ?_
    refine ⟨eA_cons H.1.1 (eA_cons H.1.2.1 (eA_cons H.1.2.2.1 (eA_cons H.1.2.2.2.1 (eA_cons H.1.2.2.2.2.1 (eA_cons H.1.2.2.2.2.2.1 (eA_cons H.1.2.2.2.2.2.2.1 (eA_cons H.1.2.2.2.2.2.2.2.1 (eA_cons H.1.2.2.2.2.2.2.2.2 eA_nil)))))))), ?_⟩
    replace H := H.2
    refine kont_seq ?_
    refine W_seq ?_
    refine W_draw dp38_4 ?_
    refine VO_1 (s_load1 ag65) H fun v21_32 H => ?_
    refine VO_1 (s_iaS sl65 el65 sz64) H fun v22_33 H => ?_
    refine VO_1 (s_load1 ag64) H fun v23_34 H => ?_
    refine VO_1 (s_fa tf28_0 rfl) H fun v24_35 H => ?_
    refine VO_1 (s_load1 ag24) H fun v25_36 H => ?_
    refine VO_1 (s_lenS ud24) H fun v26_37 H => ?_
    refine VO_1 (s_iaS sl64 el64 sz4) H fun v27_38 H => ?_
    refine VO_3 (s_store sz4) H fun h39 H => ?_
    refine VO_nil ?_
    refine kont_seq ?_
    refine W_seq ?_
    refine W_plain ?_
    refine VO_5 s_makeFunc ?_
    refine VO_4 rfl H fun v29_40 h41 H => ?_
    refine VO_nil ?_
    refine kont_seq ?_
    refine W_seq ?_
    refine W_plain ?_
    refine VO_1 (s_load1 ag65) H fun v30_42 H => ?_
    refine VO_5 s_assign ?_
    refine VO_nil ?_
    refine kont_seq ?_
    refine W_ret ?_
    exact ⟨rfl, obP_of (dres_mk (lm_cons rfl lm_nil)) H⟩

-- lemmata/first.Row
noncomputable def body39 : Code := Cd.bO Try.f39
theorem df39 : dfunc Try.prog 39 = some ⟨Try.f39, body39⟩ := by kernel_rfl
theorem dp39_3 : drawPairs (Cd.rO (Cd.sL (Cd.sR (Cd.sR body39)))) = some [(0, 2), (2, 3), (0, 4)] := by kernel_rfl
theorem R39 {v0 v1 : Value} {h : DH} {Z : Value → DH → Prop} (H : oh (bx 28 h v0) fun v2_1 h2 => obP (ldN 3 h2 v2_1) fun v6_3 => CP Try.prog 49 [v6_3] h2 fun v7_4 h5 => obP (bnot v7_4) fun v8_6 => obP (asB v8_6) fun b7 => bP b7 (Z (.tuple ⟨[(Value.slice none 0 0), (Value.bool false)]⟩) h5) (obP (ldN 3 h5 v2_1) fun v9_8 => obP (ldN 3 h5 v2_1) fun v10_9 => CP Try.prog 35 [v10_9] (reset h5) fun v11_10 h11 => obP (ldN 3 (lowered h11 h5.low) v2_1) fun v12_12 => CP Try.prog 37 [v12_12] (reset (lowered h11 h5.low)) fun v13_13 h14 => CP Try.prog 80 [v9_8, v11_10, v13_13, v1] (reset (lowered h14 (lowered h11 h5.low).low)) fun v15_15 h16 => obP (ext1 v15_15 0) fun v16_17 => obP (ext1 v15_15 1) fun v17_18 => (either ⟨some (blockOf v2_1), .none⟩ (callFoot h5 h11) = true ∧ either (callFoot h5 h11) ⟨some (blockOf v2_1), .none⟩ = true ∧ either ⟨some (blockOf v2_1), .none⟩ (callFoot (lowered h11 h5.low) h14) = true) ∧ (Z (.tuple ⟨[v16_17, v17_18]⟩) (lowered h16 (lowered h14 (lowered h11 h5.low).low).low)))) : CP Try.prog 39 [v0, v1] h Z := by
  refine CP_of df39 ?_
  refine W_seq ?_
  refine W_plain ?_
  refine VO_2 s_box H fun v2_1 h2 H => ?_
  refine VO_5 s_assign ?_
  refine VO_5 s_assign ?_
  refine VO_nil ?_
  refine kont_seq ?_
  refine W_seq ?_
  refine W_seq ?_
  refine W_plain ?_
  refine VO_1 (s_loadN ag28 sz28) H fun v6_3 H => ?_
  refine VO_4 rfl H fun v7_4 h5 H => ?_
  refine VO_1 s_not H fun v8_6 H => ?_
  refine VO_nil ?_
  refine kont_seq ?_
  refine obP_elim H fun b7 eb7 H => W_cond eb7 (bP_imp H (fun H => ?_) (fun H => ?_))
  · refine W_seq ?_
    refine W_plain ?_
    refine VO_5 s_assign ?_
    refine VO_5 s_assign ?_
    refine VO_nil ?_
    refine kont_seq ?_
    refine W_ret ?_
    refine kont_xs rfl ?_
    exact ⟨rfl, obP_of (dres_mk (lm_cons rfl (lm_cons rfl lm_nil))) H⟩
  · refine W_skip ?_
    refine kont_seq ?_
    refine W_seq ?_
    refine W_drawF dp39_3 ?_
    refine VF_1 rfl (s_loadN ag28 sz28) H fun v9_8 H => ?_
    refine VF_1 rfl (s_loadN ag28 sz28) H fun v10_9 H => ?_
    refine VF_4 rfl rfl H fun v11_10 h11 H => ?_
    refine VF_1 rfl (s_loadN ag28 sz28) H fun v12_12 H => ?_
    refine VF_4 rfl rfl H fun v13_13 h14 H => ?_
    refine VF_5 rfl s_move ?_
    refine VF_4 rfl rfl H fun v15_15 h16 H => ?_
    refine VF_1 rfl s_ext H fun v16_17 H => ?_
    refine VF_1 rfl s_ext H fun v17_18 H => ?_
    refine VF_5 rfl s_assign ?_
    refine VF_5 rfl s_assign ?_
    refine VF_nil ?_
    refine ⟨eA_cons H.1.1 (eA_cons H.1.2.1 (eA_cons H.1.2.2 eA_nil)), ?_⟩
    replace H := H.2
    refine kont_seq ?_
    refine W_ret ?_
    exact ⟨rfl, obP_of (dres_mk (lm_cons rfl (lm_cons rfl lm_nil))) H⟩

end Go.Det
end
/- PRINTED BY gen.py: the conditions of functions. -/
set_option linter.unusedVariables false
set_option linter.unusedSimpArgs false
set_option maxRecDepth 100000
noncomputable section
namespace Go.Det
open Go.Proofs
-- lemmata/lemmatalaw12.FirstRow
noncomputable def body12 : Code := Cd.bO Try.f12
theorem df12 : dfunc Try.prog 12 = some ⟨Try.f12, body12⟩ := by kernel_rfl
theorem dp12_15 : drawPairs (Cd.rO (Cd.sL (Cd.bB (Cd.sL (Cd.sR (Cd.lB (Cd.bB (Cd.sR (Cd.sL (Cd.sR (Cd.sR (Cd.sR (Cd.sR (Cd.sR (Cd.sR (Cd.sR (Cd.sR (Cd.sR body12)))))))))))))))))) = some [] := by kernel_rfl
theorem dp12_6 : drawPairs (Cd.rO (Cd.sL (Cd.sR (Cd.sR (Cd.sR (Cd.sR body12)))))) = some [] := by kernel_rfl
theorem dp12_9 : drawPairs (Cd.rO (Cd.sL (Cd.sR (Cd.sR (Cd.sR (Cd.sR (Cd.sR (Cd.sR (Cd.sR body12))))))))) = some [(0, 3), (0, 5)] := by kernel_rfl
def A12_1 (v10 v11 v12 v14 v16 : Value) (h : DH) (Z : Value → DH → Prop) : Prop := ∀ a : DA, DA.val a 10 = v10 → DA.val a 11 = v11 → DA.val a 12 = v12 → DA.val a 14 = v14 → DA.val a 16 = v16 → W Try.prog (Cd.bB (Cd.sR (Cd.sL (Cd.sR (Cd.sR (Cd.sR (Cd.sR (Cd.sR (Cd.sR (Cd.sR (Cd.sR (Cd.sR body12)))))))))))) a h (kont Try.prog [.block 0, .seq (Cd.sR (Cd.sR (Cd.sR (Cd.sR (Cd.sR (Cd.sR (Cd.sR (Cd.sR (Cd.sR (Cd.sR body12))))))))))] (Fin Try.prog Try.f12 Z))
theorem R12 {v0 v1 v2 : Value} {h : DH} {Z : Value → DH → Prop} (H : CP Try.prog 31 [] h fun v17_1 h2 => obP (bnot v17_1) fun v18_3 => obP (asB v18_3) fun b4 => bP b4 (Z (Value.bool false) h2) (obP (lenS v0) fun v20_5 => obP (ibin .gtr v20_5 (Value.int .i64 150)) fun v21_6 => obP (asB v21_6) fun b7 => bP b7 (Z (Value.bool true) h2) (CP Try.prog 15 [v0] h2 fun v23_8 h9 => CP Try.prog 16 [v23_8] h9 fun v24_10 h11 => oh (al 28 [(Value.slice none 0 0), (Value.slice none 0 0), (Value.slice none 0 0)] h11) fun v7_12 h13 => obP (st 3 h13 v7_12 v24_10) fun h14 => obP (fa 2 v7_12) fun v25_15 => obP (ld1 h14 v25_15) fun v26_16 => obP (cvI .i64 v1) fun v28_17 => obP (fa 2 v7_12) fun v29_18 => obP (ld1 h14 v29_18) fun v30_19 => obP (lenS v30_19) fun v31_20 => obP (idiv .rem v28_17 v31_20) fun v32_21 => obP (iaS 3 v26_16 v32_21) fun v33_22 => obP (fa 1 v33_22) fun v34_23 => obP (ld1 h14 v34_23) fun v35_24 => obP (fa 2 v7_12) fun v36_25 => obP (ld1 h14 v36_25) fun v37_26 => obP (cvI .i64 v2) fun v39_27 => obP (fa 2 v7_12) fun v40_28 => obP (ld1 h14 v40_28) fun v41_29 => obP (lenS v41_29) fun v42_30 => obP (idiv .rem v39_27 v42_30) fun v43_31 => obP (iaS 3 v37_26 v43_31) fun v44_32 => obP (fa 1 v44_32) fun v45_33 => obP (ld1 h14 v45_33) fun v46_34 => obP (ldN 3 h14 v7_12) fun v48_35 => CP Try.prog 39 [v48_35, v35_24] h14 fun v50_36 h37 => obP (ext1 v50_36 0) fun v51_38 => obP (ext1 v50_36 1) fun v52_39 => obP (ldN 3 h37 v7_12) fun v54_40 => CP Try.prog 39 [v54_40, v46_34] h37 fun v56_41 h42 => obP (ext1 v56_41 0) fun v57_43 => obP (ext1 v56_41 1) fun v58_44 => obP (ldN 3 h42 v7_12) fun v60_45 => oh (bldSl 90 2 0 [(Value.bool false), (Value.int .i64 0)] [] h42) fun v61_46 h47 => oh (appS 90 16 2 h47 v61_46 v35_24) fun v63_48 h49 => oh (appS 90 16 2 h49 v63_48 v46_34) fun v65_50 h51 => CP Try.prog 39 [v60_45, v65_50] (reset h51) fun v66_52 h53 => obP (ext1 v66_52 0) fun v67_54 => obP (ext1 v66_52 1) fun v68_55 => (either ⟨some (blockOf v7_12), .none⟩ (wrOf (blockOf v61_46) (blockOf v35_24)) = true ∧ either ⟨some (blockOf v7_12), .none⟩ (wrOf (blockOf v63_48) (blockOf v46_34)) = true) ∧ (obP (lenS v51_38) fun v70_56 => obP (fa 0 v7_12) fun v71_57 => obP (ld1 (lowered h53 h51.low) v71_57) fun v72_58 => obP (lenS v72_58) fun v73_59 => obP (ibin .neq v70_56 v73_59) fun v74_60 => obP (gotB v74_60 false) fun w61 => g1 w61 (lenS (sel w61 v57_43 undef)) fun v77_62 => g1 w61 (lenS (sel w61 v51_38 undef)) fun v79_63 => g1 w61 (ibin .neq v77_62 v79_63) fun v80_64 => obP (pk v74_60 (Value.bool true) v80_64) fun v81_65 => obP (gotB v81_65 false) fun w66 => g1 w66 (lenS (sel w66 v67_54 undef)) fun v84_67 => g1 w66 (lenS (sel w66 v51_38 undef)) fun v86_68 => g1 w66 (ibin .neq v84_67 v86_68) fun v87_69 => obP (pk v81_65 (Value.bool true) v87_69) fun v88_70 => obP (gotB v88_70 false) fun w71 => obP (gotB (sel w71 (sel w71 v52_39 undef) undef) true) fun w72 => g1 w71 (pk (sel w71 (sel w71 v52_39 undef) undef) (sel w72 v58_44 undef) (Value.bool false)) fun v94_73 => g1 w71 (dbin Try.prog .neq 4 (.tmp 90) (.tmp 94) (sel w71 v68_55 undef) v94_73) fun v95_74 => obP (pk v88_70 (Value.bool true) v95_74) fun v96_75 => obP (asB v96_75) fun b76 => bP b76 (Z (Value.bool false) (lowered h53 h51.low)) (A12_1 v51_38 v52_39 v57_43 v67_54 (Value.int .i64 0) (lowered h53 h51.low) Z))))) : CP Try.prog 12 [v0, v1, v2] h Z := by
  refine CP_of df12 ?_
  refine W_seq ?_
  refine W_plain ?_
  refine VO_5 s_assign ?_
  refine VO_nil ?_
  refine kont_seq ?_
  refine W_seq ?_
  refine W_seq ?_
  refine W_plain ?_
  refine VO_4 rfl H fun v17_1 h2 H => ?_
  refine VO_1 s_not H fun v18_3 H => ?_
  refine VO_nil ?_
  refine kont_seq ?_
  refine obP_elim H fun b4 eb4 H => W_cond eb4 (bP_imp H (fun H => ?_) (fun H => ?_))
  · refine W_seq ?_
    refine W_plain ?_
    refine VO_5 s_assign ?_
    refine VO_nil ?_
    refine kont_seq ?_
    refine W_ret ?_
    refine kont_xs rfl ?_
    exact ⟨rfl, obP_of (dres_mk (lm_cons rfl lm_nil)) H⟩
  · refine W_skip ?_
    refine kont_seq ?_
    refine W_seq ?_
    refine W_seq ?_
    refine W_plain ?_
    refine VO_5 s_move ?_
    refine VO_1 (s_lenS ud22) H fun v20_5 H => ?_
    refine VO_1 s_ibin H fun v21_6 H => ?_
    refine VO_nil ?_
    refine kont_seq ?_
    refine obP_elim H fun b7 eb7 H => W_cond eb7 (bP_imp H (fun H => ?_) (fun H => ?_))
    · refine W_seq ?_
      refine W_plain ?_
      refine VO_5 s_assign ?_
      refine VO_nil ?_
      refine kont_seq ?_
      refine W_ret ?_
      refine kont_xs rfl ?_
      exact ⟨rfl, obP_of (dres_mk (lm_cons rfl lm_nil)) H⟩
    · refine W_skip ?_
      refine kont_seq ?_
      refine W_seq ?_
      refine W_plain ?_
      refine VO_5 s_move ?_
      refine VO_4 rfl H fun v23_8 h9 H => ?_
      refine VO_4 rfl H fun v24_10 h11 H => ?_
      refine VO_2 (s_al zc28) H fun v7_12 h13 H => ?_
      refine VO_3 (s_store sz28) H fun h14 H => ?_
      refine VO_nil ?_
      refine kont_seq ?_
      refine W_seq ?_
      refine W_draw dp12_6 ?_
      refine VO_1 (s_fa tf28_2 rfl) H fun v25_15 H => ?_
      refine VO_1 (s_load1 ag26) H fun v26_16 H => ?_
      refine VO_5 s_move ?_
      refine VO_1 (s_cvI cv5_3) H fun v28_17 H => ?_
      refine VO_1 (s_fa tf28_2 rfl) H fun v29_18 H => ?_
      refine VO_1 (s_load1 ag26) H fun v30_19 H => ?_
      refine VO_1 (s_lenS ud26) H fun v31_20 H => ?_
      refine VO_1 s_idiv H fun v32_21 H => ?_
      refine VO_1 (s_iaS sl26 el26 sz37) H fun v33_22 H => ?_
      refine VO_1 (s_fa tf37_1 rfl) H fun v34_23 H => ?_
      refine VO_1 (s_load1 ag34) H fun v35_24 H => ?_
      refine VO_1 (s_fa tf28_2 rfl) H fun v36_25 H => ?_
      refine VO_1 (s_load1 ag26) H fun v37_26 H => ?_
      refine VO_5 s_move ?_
      refine VO_1 (s_cvI cv5_3) H fun v39_27 H => ?_
      refine VO_1 (s_fa tf28_2 rfl) H fun v40_28 H => ?_
      refine VO_1 (s_load1 ag26) H fun v41_29 H => ?_
      refine VO_1 (s_lenS ud26) H fun v42_30 H => ?_
      refine VO_1 s_idiv H fun v43_31 H => ?_
      refine VO_1 (s_iaS sl26 el26 sz37) H fun v44_32 H => ?_
      refine VO_1 (s_fa tf37_1 rfl) H fun v45_33 H => ?_
      refine VO_1 (s_load1 ag34) H fun v46_34 H => ?_
      refine VO_5 s_assign ?_
      refine VO_5 s_assign ?_
      refine VO_nil ?_
      refine kont_seq ?_
      refine W_seq ?_
      refine W_plain ?_
      refine VO_1 (s_loadN ag28 sz28) H fun v48_35 H => ?_
      refine VO_5 s_move ?_
      refine VO_4 rfl H fun v50_36 h37 H => ?_
      refine VO_5 s_move ?_
      refine VO_1 s_ext H fun v51_38 H => ?_
      refine VO_1 s_ext H fun v52_39 H => ?_
      refine VO_5 s_assign ?_
      refine VO_5 s_assign ?_
      refine VO_nil ?_
      refine kont_seq ?_
      refine W_seq ?_
      refine W_plain ?_
      refine VO_1 (s_loadN ag28 sz28) H fun v54_40 H => ?_
      refine VO_5 s_move ?_
      refine VO_4 rfl H fun v56_41 h42 H => ?_
      refine VO_5 s_move ?_
      refine VO_1 s_ext H fun v57_43 H => ?_
      refine VO_1 s_ext H fun v58_44 H => ?_
      refine VO_5 s_assign ?_
      refine VO_5 s_assign ?_
      refine VO_nil ?_
      refine kont_seq ?_
      refine W_seq ?_
      refine W_drawF dp12_9 ?_
      refine VF_1 rfl (s_loadN ag28 sz28) H fun v60_45 H => ?_
      refine VF_2 rfl (s_bldSl el34 sz90 zr90 fil_nil rfl) H fun v61_46 h47 H => ?_
      refine VF_5 rfl s_move ?_
      refine VF_2 rfl (s_app el34 ud34 sz90 by90 zr90) H fun v63_48 h49 H => ?_
      refine VF_5 rfl s_move ?_
      refine VF_2 rfl (s_app el34 ud34 sz90 by90 zr90) H fun v65_50 h51 H => ?_
      refine VF_4 rfl rfl H fun v66_52 h53 H => ?_
      refine VF_5 rfl s_move ?_
      refine VF_1 rfl s_ext H fun v67_54 H => ?_
      refine VF_1 rfl s_ext H fun v68_55 H => ?_
      refine VF_5 rfl s_assign ?_
      refine VF_5 rfl s_assign ?_
      refine VF_nil ?_
      refine ⟨eA_cons H.1.1 (eA_cons H.1.2 eA_nil), ?_⟩
      replace H := H.2
      refine kont_seq ?_
      refine W_seq ?_
      refine W_seq ?_
      refine W_plain ?_
      refine VO_5 s_move ?_
      refine VO_1 (s_lenS ud64) H fun v70_56 H => ?_
      refine VO_1 (s_fa tf28_0 rfl) H fun v71_57 H => ?_
      refine VO_1 (s_load1 ag24) H fun v72_58 H => ?_
      refine VO_1 (s_lenS ud24) H fun v73_59 H => ?_
      refine VO_1 s_ibin H fun v74_60 H => ?_
      refine VO_5 s_move ?_
      refine obP_elim H fun w61 ew61 H => ?_
      refine VO_5m rfl ew61 s_move ?_
      refine VO_1g rfl ew61 (s_lenS ud64) H fun v77_62 H => ?_
      refine VO_5m rfl ew61 s_move ?_
      refine VO_1g rfl ew61 (s_lenS ud64) H fun v79_63 H => ?_
      refine VO_1g rfl ew61 s_ibin H fun v80_64 H => ?_
      refine VO_1 s_pk H fun v81_65 H => ?_
      refine VO_5 s_move ?_
      refine obP_elim H fun w66 ew66 H => ?_
      refine VO_5m rfl ew66 s_move ?_
      refine VO_1g rfl ew66 (s_lenS ud64) H fun v84_67 H => ?_
      refine VO_5m rfl ew66 s_move ?_
      refine VO_1g rfl ew66 (s_lenS ud64) H fun v86_68 H => ?_
      refine VO_1g rfl ew66 s_ibin H fun v87_69 H => ?_
      refine VO_1 s_pk H fun v88_70 H => ?_
      refine VO_5 s_move ?_
      refine obP_elim H fun w71 ew71 H => ?_
      refine VO_5m rfl ew71 s_move ?_
      refine VO_5m rfl ew71 s_move ?_
      refine VO_5m rfl ew71 s_move ?_
      refine obP_elim H fun w72 ew72 H => ?_
      refine VO_5m rfl ew72 s_move ?_
      refine VO_1g rfl ew71 s_pk H fun v94_73 H => ?_
      refine VO_1g rfl ew71 s_gbin H fun v95_74 H => ?_
      refine VO_1 s_pk H fun v96_75 H => ?_
      refine VO_nil ?_
      refine kont_seq ?_
      refine obP_elim H fun b76 eb76 H => W_cond eb76 (bP_imp H (fun H => ?_) (fun H => ?_))
      · refine W_seq ?_
        refine W_plain ?_
        refine VO_5 s_assign ?_
        refine VO_nil ?_
        refine kont_seq ?_
        refine W_ret ?_
        refine kont_xs rfl ?_
        exact ⟨rfl, obP_of (dres_mk (lm_cons rfl lm_nil)) H⟩
      · refine W_skip ?_
        refine kont_seq ?_
        refine W_seq ?_
        refine W_seq ?_
        refine W_plain ?_
        refine VO_5 s_assign ?_
        refine VO_nil ?_
        refine kont_seq ?_
        refine W_block ?_
        exact H _ rfl rfl rfl rfl rfl

theorem R12_1 {v10 v11 v12 v14 v16 : Value} {h : DH} {Z : Value → DH → Prop} (H : obP (lenS v14) fun v99_77 => obP (ibin .lss v16 v99_77) fun v100_78 => obP (asB v100_78) fun b79 => bP b79 (obP (iaS 1 v14 v16) fun v105_80 => obP (ld1 h v105_80) fun v106_81 => obP (iaS 1 v10 v16) fun v109_82 => obP (ld1 h v109_82) fun v110_83 => obP (gotB v110_83 false) fun w84 => obP (gotB (sel w84 (sel w84 v11 undef) undef) true) fun w85 => g1 w85 (iaS 1 (sel w85 v12 undef) (sel w85 v16 undef)) fun v116_86 => g1 w85 (ld1 h v116_86) fun v117_87 => g1 w84 (pk (sel w84 (sel w84 v11 undef) undef) v117_87 (Value.bool false)) fun v118_88 => obP (pk v110_83 (Value.bool true) v118_88) fun v119_89 => obP (dbin Try.prog .neq 4 (.tmp 106) (.tmp 119) v106_81 v119_89) fun v120_90 => obP (asB v120_90) fun b91 => bP b91 (Z (Value.bool false) h) (obP (ibin .add v16 (Value.int .i64 1)) fun v102_92 => A12_1 v10 v11 v12 v14 v102_92 h Z)) (Z (Value.bool true) h)) : A12_1 v10 v11 v12 v14 v16 h Z := by
  intro a e10 e11 e12 e14 e16
  subst e10 e11 e12 e14 e16
  refine W_loop ?_
  refine W_seq ?_
  refine W_seq ?_
  refine W_plain ?_
  refine VO_5 s_move ?_
  refine VO_5 s_move ?_
  refine VO_1 (s_lenS ud64) H fun v99_77 H => ?_
  refine VO_1 s_ibin H fun v100_78 H => ?_
  refine VO_nil ?_
  refine kont_seq ?_
  refine obP_elim H fun b79 eb79 H => W_cond eb79 (bP_imp H (fun H => ?_) (fun H => ?_))
  · refine W_skip ?_
    refine kont_seq ?_
    refine W_seq ?_
    refine W_block ?_
    refine W_seq ?_
    refine W_draw dp12_15 ?_
    refine VO_5 s_move ?_
    refine VO_5 s_move ?_
    refine VO_1 (s_iaS sl64 el64 sz4) H fun v105_80 H => ?_
    refine VO_1 (s_load1 ag4) H fun v106_81 H => ?_
    refine VO_5 s_move ?_
    refine VO_5 s_move ?_
    refine VO_1 (s_iaS sl64 el64 sz4) H fun v109_82 H => ?_
    refine VO_1 (s_load1 ag4) H fun v110_83 H => ?_
    refine VO_5 s_move ?_
    refine obP_elim H fun w84 ew84 H => ?_
    refine VO_5m rfl ew84 s_move ?_
    refine VO_5m rfl ew84 s_move ?_
    refine obP_elim H fun w85 ew85 H => ?_
    refine VO_5m rfl ew85 s_move ?_
    refine VO_5m rfl ew85 s_move ?_
    refine VO_1g rfl ew85 (s_iaS sl64 el64 sz4) H fun v116_86 H => ?_
    refine VO_1g rfl ew85 (s_load1 ag4) H fun v117_87 H => ?_
    refine VO_1g rfl ew84 s_pk H fun v118_88 H => ?_
    refine VO_1 s_pk H fun v119_89 H => ?_
    refine VO_1 s_gbin H fun v120_90 H => ?_
    refine VO_nil ?_
    refine kont_seq ?_
    refine obP_elim H fun b91 eb91 H => W_cond eb91 (bP_imp H (fun H => ?_) (fun H => ?_))
    · refine W_seq ?_
      refine W_plain ?_
      refine VO_5 s_assign ?_
      refine VO_nil ?_
      refine kont_seq ?_
      refine W_ret ?_
      refine kont_block ?_
      refine kont_xs rfl ?_
      refine kont_xl rfl ?_
      refine kont_block ?_
      refine kont_xs rfl ?_
      exact ⟨rfl, obP_of (dres_mk (lm_cons rfl lm_nil)) H⟩
    · refine W_skip ?_
      refine kont_block ?_
      refine kont_seq ?_
      refine W_plain ?_
      refine VO_5 s_move ?_
      refine VO_1 s_ibin H fun v102_92 H => ?_
      refine VO_5 s_assign ?_
      refine VO_nil ?_
      exact kont_loop (H _ rfl rfl rfl rfl rfl)
  · refine W_exit ?_
    refine kont_xs rfl ?_
    refine kont_xl rfl ?_
    refine kont_block ?_
    refine kont_seq ?_
    refine W_seq ?_
    refine W_plain ?_
    refine VO_5 s_assign ?_
    refine VO_nil ?_
    refine kont_seq ?_
    refine W_ret ?_
    exact ⟨rfl, obP_of (dres_mk (lm_cons rfl lm_nil)) H⟩

-- lemmata/lemmatalaw12.sameRow
noncomputable def body34 : Code := Cd.bO Try.f34
theorem df34 : dfunc Try.prog 34 = some ⟨Try.f34, body34⟩ := by kernel_rfl
theorem dp34_6 : drawPairs (Cd.rO (Cd.sL (Cd.bB (Cd.sL (Cd.sR (Cd.lB (Cd.bB (Cd.sR (Cd.sL (Cd.sR (Cd.sR body34))))))))))) = some [] := by kernel_rfl
def A34_1 (v0 v1 v5 : Value) (h : DH) (Z : Value → DH → Prop) : Prop := ∀ a : DA, DA.val a 0 = v0 → DA.val a 1 = v1 → DA.val a 5 = v5 → W Try.prog (Cd.bB (Cd.sR (Cd.sL (Cd.sR (Cd.sR body34))))) a h (kont Try.prog [.block 0, .seq (Cd.sR (Cd.sR (Cd.sR body34)))] (Fin Try.prog Try.f34 Z))
theorem R34 {v0 v1 : Value} {h : DH} {Z : Value → DH → Prop} (H : obP (lenS v0) fun v7_1 => obP (lenS v1) fun v9_2 => obP (ibin .neq v7_1 v9_2) fun v10_3 => obP (asB v10_3) fun b4 => bP b4 (Z (Value.bool false) h) (A34_1 v0 v1 (Value.int .i64 0) h Z)) : CP Try.prog 34 [v0, v1] h Z := by
  refine CP_of df34 ?_
  refine W_seq ?_
  refine W_plain ?_
  refine VO_5 s_assign ?_
  refine VO_nil ?_
  refine kont_seq ?_
  refine W_seq ?_
  refine W_seq ?_
  refine W_plain ?_
  refine VO_5 s_move ?_
  refine VO_1 (s_lenS ud64) H fun v7_1 H => ?_
  refine VO_5 s_move ?_
  refine VO_1 (s_lenS ud64) H fun v9_2 H => ?_
  refine VO_1 s_ibin H fun v10_3 H => ?_
  refine VO_nil ?_
  refine kont_seq ?_
  refine obP_elim H fun b4 eb4 H => W_cond eb4 (bP_imp H (fun H => ?_) (fun H => ?_))
  · refine W_seq ?_
    refine W_plain ?_
    refine VO_5 s_assign ?_
    refine VO_nil ?_
    refine kont_seq ?_
    refine W_ret ?_
    refine kont_xs rfl ?_
    exact ⟨rfl, obP_of (dres_mk (lm_cons rfl lm_nil)) H⟩
  · refine W_skip ?_
    refine kont_seq ?_
    refine W_seq ?_
    refine W_seq ?_
    refine W_plain ?_
    refine VO_5 s_assign ?_
    refine VO_nil ?_
    refine kont_seq ?_
    refine W_block ?_
    exact H _ rfl rfl rfl

theorem R34_1 {v0 v1 v5 : Value} {h : DH} {Z : Value → DH → Prop} (H : obP (lenS v0) fun v13_5 => obP (ibin .lss v5 v13_5) fun v14_6 => obP (asB v14_6) fun b7 => bP b7 (obP (iaS 1 v0 v5) fun v19_8 => obP (ld1 h v19_8) fun v20_9 => obP (iaS 1 v1 v5) fun v23_10 => obP (ld1 h v23_10) fun v24_11 => obP (dbin Try.prog .neq 4 (.tmp 20) (.tmp 24) v20_9 v24_11) fun v25_12 => obP (asB v25_12) fun b13 => bP b13 (Z (Value.bool false) h) (obP (ibin .add v5 (Value.int .i64 1)) fun v16_14 => A34_1 v0 v1 v16_14 h Z)) (Z (Value.bool true) h)) : A34_1 v0 v1 v5 h Z := by
  intro a e0 e1 e5
  subst e0 e1 e5
  refine W_loop ?_
  refine W_seq ?_
  refine W_seq ?_
  refine W_plain ?_
  refine VO_5 s_move ?_
  refine VO_5 s_move ?_
  refine VO_1 (s_lenS ud64) H fun v13_5 H => ?_
  refine VO_1 s_ibin H fun v14_6 H => ?_
  refine VO_nil ?_
  refine kont_seq ?_
  refine obP_elim H fun b7 eb7 H => W_cond eb7 (bP_imp H (fun H => ?_) (fun H => ?_))
  · refine W_skip ?_
    refine kont_seq ?_
    refine W_seq ?_
    refine W_block ?_
    refine W_seq ?_
    refine W_draw dp34_6 ?_
    refine VO_5 s_move ?_
    refine VO_5 s_move ?_
    refine VO_1 (s_iaS sl64 el64 sz4) H fun v19_8 H => ?_
    refine VO_1 (s_load1 ag4) H fun v20_9 H => ?_
    refine VO_5 s_move ?_
    refine VO_5 s_move ?_
    refine VO_1 (s_iaS sl64 el64 sz4) H fun v23_10 H => ?_
    refine VO_1 (s_load1 ag4) H fun v24_11 H => ?_
    refine VO_1 s_gbin H fun v25_12 H => ?_
    refine VO_nil ?_
    refine kont_seq ?_
    refine obP_elim H fun b13 eb13 H => W_cond eb13 (bP_imp H (fun H => ?_) (fun H => ?_))
    · refine W_seq ?_
      refine W_plain ?_
      refine VO_5 s_assign ?_
      refine VO_nil ?_
      refine kont_seq ?_
      refine W_ret ?_
      refine kont_block ?_
      refine kont_xs rfl ?_
      refine kont_xl rfl ?_
      refine kont_block ?_
      refine kont_xs rfl ?_
      exact ⟨rfl, obP_of (dres_mk (lm_cons rfl lm_nil)) H⟩
    · refine W_skip ?_
      refine kont_block ?_
      refine kont_seq ?_
      refine W_plain ?_
      refine VO_5 s_move ?_
      refine VO_1 s_ibin H fun v16_14 H => ?_
      refine VO_5 s_assign ?_
      refine VO_nil ?_
      exact kont_loop (H _ rfl rfl rfl)
  · refine W_exit ?_
    refine kont_xs rfl ?_
    refine kont_xl rfl ?_
    refine kont_block ?_
    refine kont_seq ?_
    refine W_seq ?_
    refine W_plain ?_
    refine VO_5 s_assign ?_
    refine VO_nil ?_
    refine kont_seq ?_
    refine W_ret ?_
    exact ⟨rfl, obP_of (dres_mk (lm_cons rfl lm_nil)) H⟩

-- lemmata/lemmatalaw12.sameRows
noncomputable def body36 : Code := Cd.bO Try.f36
theorem df36 : dfunc Try.prog 36 = some ⟨Try.f36, body36⟩ := by kernel_rfl
theorem dp36_6 : drawPairs (Cd.rO (Cd.sL (Cd.bB (Cd.sL (Cd.sR (Cd.lB (Cd.bB (Cd.sR (Cd.sL (Cd.sR (Cd.sR body36))))))))))) = some [] := by kernel_rfl
def A36_1 (v0 v1 v5 : Value) (h : DH) (Z : Value → DH → Prop) : Prop := ∀ a : DA, DA.val a 0 = v0 → DA.val a 1 = v1 → DA.val a 5 = v5 → W Try.prog (Cd.bB (Cd.sR (Cd.sL (Cd.sR (Cd.sR body36))))) a h (kont Try.prog [.block 0, .seq (Cd.sR (Cd.sR (Cd.sR body36)))] (Fin Try.prog Try.f36 Z))
theorem R36 {v0 v1 : Value} {h : DH} {Z : Value → DH → Prop} (H : obP (lenS v0) fun v7_1 => obP (lenS v1) fun v9_2 => obP (ibin .neq v7_1 v9_2) fun v10_3 => obP (asB v10_3) fun b4 => bP b4 (Z (Value.bool false) h) (A36_1 v0 v1 (Value.int .i64 0) h Z)) : CP Try.prog 36 [v0, v1] h Z := by
  refine CP_of df36 ?_
  refine W_seq ?_
  refine W_plain ?_
  refine VO_5 s_assign ?_
  refine VO_nil ?_
  refine kont_seq ?_
  refine W_seq ?_
  refine W_seq ?_
  refine W_plain ?_
  refine VO_5 s_move ?_
  refine VO_1 (s_lenS ud65) H fun v7_1 H => ?_
  refine VO_5 s_move ?_
  refine VO_1 (s_lenS ud65) H fun v9_2 H => ?_
  refine VO_1 s_ibin H fun v10_3 H => ?_
  refine VO_nil ?_
  refine kont_seq ?_
  refine obP_elim H fun b4 eb4 H => W_cond eb4 (bP_imp H (fun H => ?_) (fun H => ?_))
  · refine W_seq ?_
    refine W_plain ?_
    refine VO_5 s_assign ?_
    refine VO_nil ?_
    refine kont_seq ?_
    refine W_ret ?_
    refine kont_xs rfl ?_
    exact ⟨rfl, obP_of (dres_mk (lm_cons rfl lm_nil)) H⟩
  · refine W_skip ?_
    refine kont_seq ?_
    refine W_seq ?_
    refine W_seq ?_
    refine W_plain ?_
    refine VO_5 s_assign ?_
    refine VO_nil ?_
    refine kont_seq ?_
    refine W_block ?_
    exact H _ rfl rfl rfl

theorem R36_1 {v0 v1 v5 : Value} {h : DH} {Z : Value → DH → Prop} (H : obP (lenS v0) fun v13_5 => obP (ibin .lss v5 v13_5) fun v14_6 => obP (asB v14_6) fun b7 => bP b7 (obP (iaS 1 v0 v5) fun v19_8 => obP (ld1 h v19_8) fun v20_9 => obP (iaS 1 v1 v5) fun v23_10 => obP (ld1 h v23_10) fun v24_11 => CP Try.prog 34 [v20_9, v24_11] h fun v25_12 h13 => obP (bnot v25_12) fun v26_14 => obP (asB v26_14) fun b15 => bP b15 (Z (Value.bool false) h13) (obP (ibin .add v5 (Value.int .i64 1)) fun v16_16 => A36_1 v0 v1 v16_16 h13 Z)) (Z (Value.bool true) h)) : A36_1 v0 v1 v5 h Z := by
  intro a e0 e1 e5
  subst e0 e1 e5
  refine W_loop ?_
  refine W_seq ?_
  refine W_seq ?_
  refine W_plain ?_
  refine VO_5 s_move ?_
  refine VO_5 s_move ?_
  refine VO_1 (s_lenS ud65) H fun v13_5 H => ?_
  refine VO_1 s_ibin H fun v14_6 H => ?_
  refine VO_nil ?_
  refine kont_seq ?_
  refine obP_elim H fun b7 eb7 H => W_cond eb7 (bP_imp H (fun H => ?_) (fun H => ?_))
  · refine W_skip ?_
    refine kont_seq ?_
    refine W_seq ?_
    refine W_block ?_
    refine W_seq ?_
    refine W_draw dp36_6 ?_
    refine VO_5 s_move ?_
    refine VO_5 s_move ?_
    refine VO_1 (s_iaS sl65 el65 sz64) H fun v19_8 H => ?_
    refine VO_1 (s_load1 ag64) H fun v20_9 H => ?_
    refine VO_5 s_move ?_
    refine VO_5 s_move ?_
    refine VO_1 (s_iaS sl65 el65 sz64) H fun v23_10 H => ?_
    refine VO_1 (s_load1 ag64) H fun v24_11 H => ?_
    refine VO_4 rfl H fun v25_12 h13 H => ?_
    refine VO_1 s_not H fun v26_14 H => ?_
    refine VO_nil ?_
    refine kont_seq ?_
    refine obP_elim H fun b15 eb15 H => W_cond eb15 (bP_imp H (fun H => ?_) (fun H => ?_))
    · refine W_seq ?_
      refine W_plain ?_
      refine VO_5 s_assign ?_
      refine VO_nil ?_
      refine kont_seq ?_
      refine W_ret ?_
      refine kont_block ?_
      refine kont_xs rfl ?_
      refine kont_xl rfl ?_
      refine kont_block ?_
      refine kont_xs rfl ?_
      exact ⟨rfl, obP_of (dres_mk (lm_cons rfl lm_nil)) H⟩
    · refine W_skip ?_
      refine kont_block ?_
      refine kont_seq ?_
      refine W_plain ?_
      refine VO_5 s_move ?_
      refine VO_1 s_ibin H fun v16_16 H => ?_
      refine VO_5 s_assign ?_
      refine VO_nil ?_
      exact kont_loop (H _ rfl rfl rfl)
  · refine W_exit ?_
    refine kont_xs rfl ?_
    refine kont_xl rfl ?_
    refine kont_block ?_
    refine kont_seq ?_
    refine W_seq ?_
    refine W_plain ?_
    refine VO_5 s_assign ?_
    refine VO_nil ?_
    refine kont_seq ?_
    refine W_ret ?_
    exact ⟨rfl, obP_of (dres_mk (lm_cons rfl lm_nil)) H⟩

-- lemmata/lemmatalaw12.within
noncomputable def body46 : Code := Cd.bO Try.f46
theorem df46 : dfunc Try.prog 46 = some ⟨Try.f46, body46⟩ := by kernel_rfl
def A46_1 (v0 v1 v5 : Value) (h : DH) (Z : Value → DH → Prop) : Prop := ∀ a : DA, DA.val a 0 = v0 → DA.val a 1 = v1 → DA.val a 5 = v5 → W Try.prog (Cd.bB (Cd.sR (Cd.sL (Cd.sR (Cd.sR body46))))) a h (kont Try.prog [.block 0, .seq (Cd.sR (Cd.sR (Cd.sR body46)))] (Fin Try.prog Try.f46 Z))
theorem R46 {v0 v1 : Value} {h : DH} {Z : Value → DH → Prop} (H : obP (lenS v0) fun v7_1 => obP (lenS v1) fun v9_2 => obP (ibin .neq v7_1 v9_2) fun v10_3 => obP (asB v10_3) fun b4 => bP b4 (Z (Value.bool false) h) (A46_1 v0 v1 (Value.int .i64 0) h Z)) : CP Try.prog 46 [v0, v1] h Z := by
  refine CP_of df46 ?_
  refine W_seq ?_
  refine W_plain ?_
  refine VO_5 s_assign ?_
  refine VO_nil ?_
  refine kont_seq ?_
  refine W_seq ?_
  refine W_seq ?_
  refine W_plain ?_
  refine VO_5 s_move ?_
  refine VO_1 (s_lenS ud64) H fun v7_1 H => ?_
  refine VO_5 s_move ?_
  refine VO_1 (s_lenS ud64) H fun v9_2 H => ?_
  refine VO_1 s_ibin H fun v10_3 H => ?_
  refine VO_nil ?_
  refine kont_seq ?_
  refine obP_elim H fun b4 eb4 H => W_cond eb4 (bP_imp H (fun H => ?_) (fun H => ?_))
  · refine W_seq ?_
    refine W_plain ?_
    refine VO_5 s_assign ?_
    refine VO_nil ?_
    refine kont_seq ?_
    refine W_ret ?_
    refine kont_xs rfl ?_
    exact ⟨rfl, obP_of (dres_mk (lm_cons rfl lm_nil)) H⟩
  · refine W_skip ?_
    refine kont_seq ?_
    refine W_seq ?_
    refine W_seq ?_
    refine W_plain ?_
    refine VO_5 s_assign ?_
    refine VO_nil ?_
    refine kont_seq ?_
    refine W_block ?_
    exact H _ rfl rfl rfl

theorem R46_1 {v0 v1 v5 : Value} {h : DH} {Z : Value → DH → Prop} (H : obP (lenS v0) fun v13_5 => obP (ibin .lss v5 v13_5) fun v14_6 => obP (asB v14_6) fun b7 => bP b7 (obP (iaS 1 v0 v5) fun v19_8 => obP (ld1 h v19_8) fun v20_9 => obP (gotB v20_9 true) fun w10 => g1 w10 (iaS 1 (sel w10 v1 undef) (sel w10 v5 undef)) fun v24_11 => g1 w10 (ld1 h v24_11) fun v25_12 => g1 w10 (bnot v25_12) fun v26_13 => obP (pk v20_9 v26_13 (Value.bool false)) fun v27_14 => obP (asB v27_14) fun b15 => bP b15 (Z (Value.bool false) h) (obP (ibin .add v5 (Value.int .i64 1)) fun v16_16 => A46_1 v0 v1 v16_16 h Z)) (Z (Value.bool true) h)) : A46_1 v0 v1 v5 h Z := by
  intro a e0 e1 e5
  subst e0 e1 e5
  refine W_loop ?_
  refine W_seq ?_
  refine W_seq ?_
  refine W_plain ?_
  refine VO_5 s_move ?_
  refine VO_5 s_move ?_
  refine VO_1 (s_lenS ud64) H fun v13_5 H => ?_
  refine VO_1 s_ibin H fun v14_6 H => ?_
  refine VO_nil ?_
  refine kont_seq ?_
  refine obP_elim H fun b7 eb7 H => W_cond eb7 (bP_imp H (fun H => ?_) (fun H => ?_))
  · refine W_skip ?_
    refine kont_seq ?_
    refine W_seq ?_
    refine W_block ?_
    refine W_seq ?_
    refine W_plain ?_
    refine VO_5 s_move ?_
    refine VO_5 s_move ?_
    refine VO_1 (s_iaS sl64 el64 sz4) H fun v19_8 H => ?_
    refine VO_1 (s_load1 ag4) H fun v20_9 H => ?_
    refine VO_5 s_move ?_
    refine obP_elim H fun w10 ew10 H => ?_
    refine VO_5m rfl ew10 s_move ?_
    refine VO_5m rfl ew10 s_move ?_
    refine VO_1g rfl ew10 (s_iaS sl64 el64 sz4) H fun v24_11 H => ?_
    refine VO_1g rfl ew10 (s_load1 ag4) H fun v25_12 H => ?_
    refine VO_1g rfl ew10 s_not H fun v26_13 H => ?_
    refine VO_1 s_pk H fun v27_14 H => ?_
    refine VO_nil ?_
    refine kont_seq ?_
    refine obP_elim H fun b15 eb15 H => W_cond eb15 (bP_imp H (fun H => ?_) (fun H => ?_))
    · refine W_seq ?_
      refine W_plain ?_
      refine VO_5 s_assign ?_
      refine VO_nil ?_
      refine kont_seq ?_
      refine W_ret ?_
      refine kont_block ?_
      refine kont_xs rfl ?_
      refine kont_xl rfl ?_
      refine kont_block ?_
      refine kont_xs rfl ?_
      exact ⟨rfl, obP_of (dres_mk (lm_cons rfl lm_nil)) H⟩
    · refine W_skip ?_
      refine kont_block ?_
      refine kont_seq ?_
      refine W_plain ?_
      refine VO_5 s_move ?_
      refine VO_1 s_ibin H fun v16_16 H => ?_
      refine VO_5 s_assign ?_
      refine VO_nil ?_
      exact kont_loop (H _ rfl rfl rfl)
  · refine W_exit ?_
    refine kont_xs rfl ?_
    refine kont_xl rfl ?_
    refine kont_block ?_
    refine kont_seq ?_
    refine W_seq ?_
    refine W_plain ?_
    refine VO_5 s_assign ?_
    refine VO_nil ?_
    refine kont_seq ?_
    refine W_ret ?_
    exact ⟨rfl, obP_of (dres_mk (lm_cons rfl lm_nil)) H⟩

end Go.Det
end
/- PRINTED BY gen.py: the conditions of functions. -/
set_option linter.unusedVariables false
set_option linter.unusedSimpArgs false
set_option maxRecDepth 100000
noncomputable section
namespace Go.Det
open Go.Proofs
-- lemmata/lemmatalaw12.FirstMore
noncomputable def body11 : Code := Cd.bO Try.f11
theorem df11 : dfunc Try.prog 11 = some ⟨Try.f11, body11⟩ := by kernel_rfl
theorem dp11_13 : drawPairs (Cd.rO (Cd.bB (Cd.sL (Cd.sR (Cd.lB (Cd.bB (Cd.sR (Cd.sL (Cd.sR (Cd.sR (Cd.sR (Cd.sR (Cd.sR (Cd.sR (Cd.sR body11))))))))))))))) = some [(1, 6)] := by kernel_rfl
theorem dp11_15 : drawPairs (Cd.rO (Cd.cT (Cd.sR (Cd.sL (Cd.sR (Cd.sR (Cd.sR (Cd.sR (Cd.sR (Cd.sR (Cd.sR (Cd.sR body11)))))))))))) = some [(1, 6)] := by kernel_rfl
theorem dp11_17 : drawPairs (Cd.rO (Cd.sL (Cd.sR (Cd.sR (Cd.sR (Cd.sR (Cd.sR (Cd.sR (Cd.sR (Cd.sR (Cd.sR (Cd.sR body11)))))))))))) = some [(3, 4)] := by kernel_rfl
theorem dp11_18 : drawPairs (Cd.rO (Cd.sL (Cd.sR (Cd.sR (Cd.sR (Cd.sR (Cd.sR (Cd.sR (Cd.sR (Cd.sR (Cd.sR (Cd.sR (Cd.sR body11))))))))))))) = some [(1, 2), (1, 4), (3, 4)] := by kernel_rfl
theorem dp11_19 : drawPairs (Cd.rO (Cd.sL (Cd.sR (Cd.sR (Cd.sR (Cd.sR (Cd.sR (Cd.sR (Cd.sR (Cd.sR (Cd.sR (Cd.sR (Cd.sR (Cd.sR body11)))))))))))))) = some [(1, 2), (1, 4), (3, 4)] := by kernel_rfl
theorem dp11_25 : drawPairs (Cd.rO (Cd.sL (Cd.bB (Cd.sL (Cd.sR (Cd.lB (Cd.bB (Cd.sR (Cd.sL (Cd.sR (Cd.sR (Cd.sR (Cd.sR (Cd.sR (Cd.sR (Cd.sR (Cd.sR (Cd.sR (Cd.sR (Cd.sR (Cd.sR (Cd.sR (Cd.sR body11))))))))))))))))))))))) = some [] := by kernel_rfl
def A11_1 (v5 v6 v7 v8 : Value) (h : DH) (Z : Value → DH → Prop) : Prop := ∀ a : DA, DA.val a 5 = v5 → DA.val a 6 = v6 → DA.val a 7 = v7 → DA.val a 8 = v8 → W Try.prog (Cd.bB (Cd.sR (Cd.sL (Cd.sR (Cd.sR (Cd.sR (Cd.sR (Cd.sR (Cd.sR (Cd.sR body11)))))))))) a h (kont Try.prog [.block 0, .seq (Cd.sR (Cd.sR (Cd.sR (Cd.sR (Cd.sR (Cd.sR (Cd.sR (Cd.sR body11))))))))] (Fin Try.prog Try.f11 Z))
def A11_2 (v5 v7 : Value) (h : DH) (Z : Value → DH → Prop) : Prop := ∀ a : DA, DA.val a 5 = v5 → DA.val a 7 = v7 → W Try.prog (Cd.sR (Cd.sR (Cd.sR (Cd.sR (Cd.sR (Cd.sR (Cd.sR (Cd.sR (Cd.sR body11))))))))) a h (kont Try.prog [] (Fin Try.prog Try.f11 Z))
def A11_3 (v10 v11 v12 v13 v14 v15 v16 : Value) (h : DH) (Z : Value → DH → Prop) : Prop := ∀ a : DA, DA.val a 10 = v10 → DA.val a 11 = v11 → DA.val a 12 = v12 → DA.val a 13 = v13 → DA.val a 14 = v14 → DA.val a 15 = v15 → DA.val a 16 = v16 → W Try.prog (Cd.bB (Cd.sR (Cd.sL (Cd.sR (Cd.sR (Cd.sR (Cd.sR (Cd.sR (Cd.sR (Cd.sR (Cd.sR (Cd.sR (Cd.sR (Cd.sR (Cd.sR (Cd.sR (Cd.sR body11))))))))))))))))) a h (kont Try.prog [.block 2, .seq (Cd.sR (Cd.sR (Cd.sR (Cd.sR (Cd.sR (Cd.sR (Cd.sR (Cd.sR (Cd.sR (Cd.sR (Cd.sR (Cd.sR (Cd.sR (Cd.sR (Cd.sR body11)))))))))))))))] (Fin Try.prog Try.f11 Z))
theorem R11 {v0 v1 : Value} {h : DH} {Z : Value → DH → Prop} (H : CP Try.prog 31 [] h fun v17_1 h2 => obP (bnot v17_1) fun v18_3 => obP (asB v18_3) fun b4 => bP b4 (Z (Value.bool false) h2) (obP (lenS v0) fun v20_5 => obP (ibin .gtr v20_5 (Value.int .i64 150)) fun v21_6 => obP (gotB v21_6 false) fun w7 => g1 w7 (lenS (sel w7 v1 undef)) fun v24_8 => g1 w7 (ibin .gtr v24_8 (Value.int .i64 10)) fun v25_9 => obP (pk v21_6 (Value.bool true) v25_9) fun v26_10 => obP (asB v26_10) fun b11 => bP b11 (Z (Value.bool true) h2) (CP Try.prog 15 [v0] h2 fun v28_12 h13 => CP Try.prog 16 [v28_12] h13 fun v29_14 h15 => oh (al 28 [(Value.slice none 0 0), (Value.slice none 0 0), (Value.slice none 0 0)] h15) fun v5_16 h17 => obP (st 3 h17 v5_16 v29_14) fun h18 => obP (fa 2 v5_16) fun v30_19 => obP (ld1 h18 v30_19) fun v31_20 => obP (lenS v31_20) fun v32_21 => obP (ibin .geq v32_21 (Value.int .i64 16)) fun v33_22 => obP (asB v33_22) fun b23 => bP b23 (Z (Value.bool true) h18) (CP Try.prog 15 [v1] h18 fun v35_24 h25 => obP (fa 1 v5_16) fun v37_26 => obP (ld1 h25 v37_26) fun v38_27 => obP (lenS v38_27) fun v39_28 => CP Try.prog 45 [v35_24, v39_28] h25 fun v40_29 h30 => obP (bld [(Value.int .i64 0), (Value.slice none 0 0), (Value.slice none 0 0)] [((0, 1), v40_29)]) fun v41_31 => oh (al 37 [(Value.int .i64 0), (Value.slice none 0 0), (Value.slice none 0 0)] h30) fun v7_32 h33 => obP (st 3 h33 v7_32 v41_31) fun h34 => CP Try.prog 45 [v35_24, (Value.int .i64 3)] h34 fun v43_35 h36 => A11_1 v5_16 v35_24 v7_32 v43_35 h36 Z)))) : CP Try.prog 11 [v0, v1] h Z := by
  refine CP_of df11 ?_
  refine W_seq ?_
  refine W_plain ?_
  refine VO_5 s_assign ?_
  refine VO_nil ?_
  refine kont_seq ?_
  refine W_seq ?_
  refine W_seq ?_
  refine W_plain ?_
  refine VO_4 rfl H fun v17_1 h2 H => ?_
  refine VO_1 s_not H fun v18_3 H => ?_
  refine VO_nil ?_
  refine kont_seq ?_
  refine obP_elim H fun b4 eb4 H => W_cond eb4 (bP_imp H (fun H => ?_) (fun H => ?_))
  · refine W_seq ?_
    refine W_plain ?_
    refine VO_5 s_assign ?_
    refine VO_nil ?_
    refine kont_seq ?_
    refine W_ret ?_
    refine kont_xs rfl ?_
    exact ⟨rfl, obP_of (dres_mk (lm_cons rfl lm_nil)) H⟩
  · refine W_skip ?_
    refine kont_seq ?_
    refine W_seq ?_
    refine W_seq ?_
    refine W_plain ?_
    refine VO_5 s_move ?_
    refine VO_1 (s_lenS ud22) H fun v20_5 H => ?_
    refine VO_1 s_ibin H fun v21_6 H => ?_
    refine VO_5 s_move ?_
    refine obP_elim H fun w7 ew7 H => ?_
    refine VO_5m rfl ew7 s_move ?_
    refine VO_1g rfl ew7 (s_lenS ud22) H fun v24_8 H => ?_
    refine VO_1g rfl ew7 s_ibin H fun v25_9 H => ?_
    refine VO_1 s_pk H fun v26_10 H => ?_
    refine VO_nil ?_
    refine kont_seq ?_
    refine obP_elim H fun b11 eb11 H => W_cond eb11 (bP_imp H (fun H => ?_) (fun H => ?_))
    · refine W_seq ?_
      refine W_plain ?_
      refine VO_5 s_assign ?_
      refine VO_nil ?_
      refine kont_seq ?_
      refine W_ret ?_
      refine kont_xs rfl ?_
      exact ⟨rfl, obP_of (dres_mk (lm_cons rfl lm_nil)) H⟩
    · refine W_skip ?_
      refine kont_seq ?_
      refine W_seq ?_
      refine W_plain ?_
      refine VO_5 s_move ?_
      refine VO_4 rfl H fun v28_12 h13 H => ?_
      refine VO_4 rfl H fun v29_14 h15 H => ?_
      refine VO_2 (s_al zc28) H fun v5_16 h17 H => ?_
      refine VO_3 (s_store sz28) H fun h18 H => ?_
      refine VO_nil ?_
      refine kont_seq ?_
      refine W_seq ?_
      refine W_seq ?_
      refine W_plain ?_
      refine VO_1 (s_fa tf28_2 rfl) H fun v30_19 H => ?_
      refine VO_1 (s_load1 ag26) H fun v31_20 H => ?_
      refine VO_1 (s_lenS ud26) H fun v32_21 H => ?_
      refine VO_1 s_ibin H fun v33_22 H => ?_
      refine VO_nil ?_
      refine kont_seq ?_
      refine obP_elim H fun b23 eb23 H => W_cond eb23 (bP_imp H (fun H => ?_) (fun H => ?_))
      · refine W_seq ?_
        refine W_plain ?_
        refine VO_5 s_assign ?_
        refine VO_nil ?_
        refine kont_seq ?_
        refine W_ret ?_
        refine kont_xs rfl ?_
        exact ⟨rfl, obP_of (dres_mk (lm_cons rfl lm_nil)) H⟩
      · refine W_skip ?_
        refine kont_seq ?_
        refine W_seq ?_
        refine W_plain ?_
        refine VO_5 s_move ?_
        refine VO_4 rfl H fun v35_24 h25 H => ?_
        refine VO_5 s_assign ?_
        refine VO_nil ?_
        refine kont_seq ?_
        refine W_seq ?_
        refine W_plain ?_
        refine VO_5 s_move ?_
        refine VO_1 (s_fa tf28_1 rfl) H fun v37_26 H => ?_
        refine VO_1 (s_load1 ag25) H fun v38_27 H => ?_
        refine VO_1 (s_lenS ud25) H fun v39_28 H => ?_
        refine VO_4 rfl H fun v40_29 h30 H => ?_
        refine VO_1 (s_bld zc37 ud37 hs37 (fil_cons tf37_0 fil_nil) (fil_top rfl)) H fun v41_31 H => ?_
        refine VO_2 (s_al zc37) H fun v7_32 h33 H => ?_
        refine VO_3 (s_store sz37) H fun h34 H => ?_
        refine VO_nil ?_
        refine kont_seq ?_
        refine W_seq ?_
        refine W_seq ?_
        refine W_plain ?_
        refine VO_5 s_move ?_
        refine VO_4 rfl H fun v43_35 h36 H => ?_
        refine VO_5 s_assign ?_
        refine VO_nil ?_
        refine kont_seq ?_
        refine W_block ?_
        exact H _ rfl rfl rfl rfl

theorem R11_1 {v5 v6 v7 v8 : Value} {h : DH} {Z : Value → DH → Prop} (H : obP (ibin .gtr v8 (Value.int .i64 0)) fun v45_37 => obP (asB v45_37) fun b38 => bP b38 (obP (fa 1 v7) fun v48_39 => obP (ld1 h v48_39) fun v49_40 => obP (fa 1 v5) fun v51_41 => obP (ld1 h v51_41) fun v52_42 => obP (lenS v52_42) fun v53_43 => CP Try.prog 45 [v6, v53_43] (reset h) fun v54_44 h45 => obP (bld [(Value.bool false), (Value.int .i64 0)] [((1, 1), v54_44)]) fun v55_46 => oh (bldSl 90 2 1 [(Value.bool false), (Value.int .i64 0)] [((0, 2), v55_46)] (lowered h45 h.low)) fun v56_47 h48 => oh (appS 90 16 2 h48 v49_40 v56_47) fun v57_49 h50 => obP (fa 1 v7) fun v58_51 => obP (st 1 h50 v58_51 v57_49) fun h52 => (either ⟨some (blockOf v48_39), .none⟩ (callFoot h h45) = true) ∧ (obP (ibin .sub v8 (Value.int .i64 1)) fun v47_53 => A11_1 v5 v6 v7 v47_53 h52 Z)) (CP Try.prog 45 [v6, (Value.int .i64 2)] h fun v60_54 h55 => obP (ibin .eql v60_54 (Value.int .i64 0)) fun v61_56 => obP (asB v61_56) fun b57 => bP b57 (obP (fa 1 v7) fun v62_58 => obP (ld1 h55 v62_58) fun v63_59 => obP (fa 0 v5) fun v65_60 => obP (ld1 h55 v65_60) fun v66_61 => obP (lenS v66_61) fun v67_62 => CP Try.prog 45 [v6, v67_62] (reset h55) fun v68_63 h64 => obP (bld [(Value.bool false), (Value.int .i64 0)] [((0, 1), (Value.bool true)), ((1, 1), v68_63)]) fun v69_65 => oh (bldSl 90 2 1 [(Value.bool false), (Value.int .i64 0)] [((0, 2), v69_65)] (lowered h64 h55.low)) fun v70_66 h67 => oh (appS 90 16 2 h67 v63_59 v70_66) fun v71_68 h69 => obP (fa 1 v7) fun v72_70 => obP (st 1 h69 v72_70 v71_68) fun h71 => (either ⟨some (blockOf v62_58), .none⟩ (callFoot h55 h64) = true) ∧ (A11_2 v5 v7 h71 Z)) (A11_2 v5 v7 h55 Z))) : A11_1 v5 v6 v7 v8 h Z := by
  intro a e5 e6 e7 e8
  subst e5 e6 e7 e8
  refine W_loop ?_
  refine W_seq ?_
  refine W_seq ?_
  refine W_plain ?_
  refine VO_5 s_move ?_
  refine VO_1 s_ibin H fun v45_37 H => ?_
  refine VO_nil ?_
  refine kont_seq ?_
  refine obP_elim H fun b38 eb38 H => W_cond eb38 (bP_imp H (fun H => ?_) (fun H => ?_))
  · refine W_skip ?_
    refine kont_seq ?_
    refine W_seq ?_
    refine W_block ?_
    refine W_drawF dp11_13 ?_
    refine VF_1 rfl (s_fa tf37_1 rfl) H fun v48_39 H => ?_
    refine VF_1 rfl (s_load1 ag34) H fun v49_40 H => ?_
    refine VF_5 rfl s_move ?_
    refine VF_1 rfl (s_fa tf28_1 rfl) H fun v51_41 H => ?_
    refine VF_1 rfl (s_load1 ag25) H fun v52_42 H => ?_
    refine VF_1 rfl (s_lenS ud25) H fun v53_43 H => ?_
    refine VF_4 rfl rfl H fun v54_44 h45 H => ?_
    refine VF_1 rfl (s_bld zc90 ud90 hs90 (fil_cons tf90_1 fil_nil) (fil_top rfl)) H fun v55_46 H => ?_
    refine VF_2 rfl (s_bldSl el34 sz90 zr90 (fil_cons rfl fil_nil) (fil_top rfl)) H fun v56_47 h48 H => ?_
    refine VF_2 rfl (s_app el34 ud34 sz90 by90 zr90) H fun v57_49 h50 H => ?_
    refine VF_1 rfl (s_fa tf37_1 rfl) H fun v58_51 H => ?_
    refine VF_3 rfl (s_store sz34) H fun h52 H => ?_
    refine VF_nil ?_
    refine ⟨eA_cons H.1 eA_nil, ?_⟩
    replace H := H.2
    refine kont_block ?_
    refine kont_seq ?_
    refine W_plain ?_
    refine VO_5 s_move ?_
    refine VO_1 s_ibin H fun v47_53 H => ?_
    refine VO_5 s_assign ?_
    refine VO_nil ?_
    exact kont_loop (H _ rfl rfl rfl rfl)
  · refine W_exit ?_
    refine kont_xs rfl ?_
    refine kont_xl rfl ?_
    refine kont_block ?_
    refine kont_seq ?_
    refine W_seq ?_
    refine W_seq ?_
    refine W_plain ?_
    refine VO_5 s_move ?_
    refine VO_4 rfl H fun v60_54 h55 H => ?_
    refine VO_1 s_ibin H fun v61_56 H => ?_
    refine VO_nil ?_
    refine kont_seq ?_
    refine obP_elim H fun b57 eb57 H => W_cond eb57 (bP_imp H (fun H => ?_) (fun H => ?_))
    · refine W_drawF dp11_15 ?_
      refine VF_1 rfl (s_fa tf37_1 rfl) H fun v62_58 H => ?_
      refine VF_1 rfl (s_load1 ag34) H fun v63_59 H => ?_
      refine VF_5 rfl s_move ?_
      refine VF_1 rfl (s_fa tf28_0 rfl) H fun v65_60 H => ?_
      refine VF_1 rfl (s_load1 ag24) H fun v66_61 H => ?_
      refine VF_1 rfl (s_lenS ud24) H fun v67_62 H => ?_
      refine VF_4 rfl rfl H fun v68_63 h64 H => ?_
      refine VF_1 rfl (s_bld zc90 ud90 hs90 (fil_cons tf90_0 (fil_cons tf90_1 fil_nil)) (fil_top (fil_top rfl))) H fun v69_65 H => ?_
      refine VF_2 rfl (s_bldSl el34 sz90 zr90 (fil_cons rfl fil_nil) (fil_top rfl)) H fun v70_66 h67 H => ?_
      refine VF_2 rfl (s_app el34 ud34 sz90 by90 zr90) H fun v71_68 h69 H => ?_
      refine VF_1 rfl (s_fa tf37_1 rfl) H fun v72_70 H => ?_
      refine VF_3 rfl (s_store sz34) H fun h71 H => ?_
      refine VF_nil ?_
      refine ⟨eA_cons H.1 eA_nil, ?_⟩
      replace H := H.2
      exact kont_seq (H _ rfl rfl)
    · refine W_skip ?_
      exact kont_seq (H _ rfl rfl)

theorem R11_2 {v5 v7 : Value} {h : DH} {Z : Value → DH → Prop} (H : obP (ldN 3 h v5) fun v73_72 => oh (al 28 [(Value.slice none 0 0), (Value.slice none 0 0), (Value.slice none 0 0)] h) fun v9_73 h74 => obP (st 3 h74 v9_73 v73_72) fun h75 => oh (bldSl 37 3 0 [(Value.int .i64 0), (Value.slice none 0 0), (Value.slice none 0 0)] [] h75) fun v74_76 h77 => obP (fa 2 v5) fun v75_78 => obP (ld1 h77 v75_78) fun v76_79 => oh (appS 37 56 3 h77 v74_76 v76_79) fun v77_80 h81 => obP (ldN 3 h81 v7) fun v78_82 => oh (bldSl 37 3 1 [(Value.int .i64 0), (Value.slice none 0 0), (Value.slice none 0 0)] [((0, 3), v78_82)] h81) fun v79_83 h84 => oh (appS 37 56 3 h84 v77_80 v79_83) fun v80_85 h86 => obP (fa 2 v9_73) fun v81_87 => obP (st 1 h86 v81_87 v80_85) fun h88 => (either (wrOf (blockOf v74_76) (blockOf v76_79)) ⟨some (blockOf v7), .none⟩ = true) ∧ (obP (ldN 3 h88 v5) fun v82_89 => CP Try.prog 35 [v82_89] (reset h88) fun v83_90 h91 => obP (ldN 3 (lowered h91 h88.low) v5) fun v84_92 => CP Try.prog 37 [v84_92] (reset (lowered h91 h88.low)) fun v85_93 h94 => obP (ldN 3 (lowered h94 (lowered h91 h88.low).low) v5) fun v86_95 => CP Try.prog 38 [v86_95] (reset (lowered h94 (lowered h91 h88.low).low)) fun v87_96 h97 => (either (callFoot h88 h91) ⟨some (blockOf v5), .none⟩ = true ∧ either (callFoot h88 h91) ⟨some (blockOf v5), .none⟩ = true ∧ either (callFoot (lowered h91 h88.low) h94) ⟨some (blockOf v5), .none⟩ = true) ∧ (obP (ldN 3 (lowered h97 (lowered h94 (lowered h91 h88.low).low).low) v9_73) fun v88_98 => CP Try.prog 35 [v88_98] (reset (lowered h97 (lowered h94 (lowered h91 h88.low).low).low)) fun v89_99 h100 => obP (ldN 3 (lowered h100 (lowered h97 (lowered h94 (lowered h91 h88.low).low).low).low) v9_73) fun v90_101 => CP Try.prog 37 [v90_101] (reset (lowered h100 (lowered h97 (lowered h94 (lowered h91 h88.low).low).low).low)) fun v91_102 h103 => obP (ldN 3 (lowered h103 (lowered h100 (lowered h97 (lowered h94 (lowered h91 h88.low).low).low).low).low) v9_73) fun v92_104 => CP Try.prog 38 [v92_104] (reset (lowered h103 (lowered h100 (lowered h97 (lowered h94 (lowered h91 h88.low).low).low).low).low)) fun v93_105 h106 => (either (callFoot (lowered h97 (lowered h94 (lowered h91 h88.low).low).low) h100) ⟨some (blockOf v9_73), .none⟩ = true ∧ either (callFoot (lowered h97 (lowered h94 (lowered h91 h88.low).low).low) h100) ⟨some (blockOf v9_73), .none⟩ = true ∧ either (callFoot (lowered h100 (lowered h97 (lowered h94 (lowered h91 h88.low).low).low).low) h103) ⟨some (blockOf v9_73), .none⟩ = true) ∧ (obP (lenS v83_90) fun v95_107 => obP (fa 1 v5) fun v96_108 => obP (ld1 (lowered h106 (lowered h103 (lowered h100 (lowered h97 (lowered h94 (lowered h91 h88.low).low).low).low).low).low) v96_108) fun v97_109 => obP (lenS v97_109) fun v98_110 => obP (ibin .neq v95_107 v98_110) fun v99_111 => obP (gotB v99_111 false) fun w112 => g1 w112 (lenS (sel w112 v85_93 undef)) fun v102_113 => g1 w112 (lenS (sel w112 v83_90 undef)) fun v104_114 => g1 w112 (ibin .neq v102_113 v104_114) fun v105_115 => obP (pk v99_111 (Value.bool true) v105_115) fun v106_116 => obP (gotB v106_116 false) fun w117 => g1 w117 (lenS (sel w117 v87_96 undef)) fun v109_118 => g1 w117 (lenS (sel w117 v83_90 undef)) fun v111_119 => g1 w117 (ibin .neq v109_118 v111_119) fun v112_120 => obP (pk v106_116 (Value.bool true) v112_120) fun v113_121 => obP (gotB v113_121 false) fun w122 => g1 w122 (lenS (sel w122 v89_99 undef)) fun v116_123 => g1 w122 (lenS (sel w122 v83_90 undef)) fun v118_124 => g1 w122 (ibin .neq v116_123 v118_124) fun v119_125 => obP (pk v113_121 (Value.bool true) v119_125) fun v120_126 => obP (gotB v120_126 false) fun w127 => g1 w127 (lenS (sel w127 v91_102 undef)) fun v123_128 => g1 w127 (lenS (sel w127 v83_90 undef)) fun v125_129 => g1 w127 (ibin .neq v123_128 v125_129) fun v126_130 => obP (pk v120_126 (Value.bool true) v126_130) fun v127_131 => obP (gotB v127_131 false) fun w132 => g1 w132 (lenS (sel w132 v93_105 undef)) fun v130_133 => g1 w132 (lenS (sel w132 v83_90 undef)) fun v132_134 => g1 w132 (ibin .neq v130_133 v132_134) fun v133_135 => obP (pk v127_131 (Value.bool true) v133_135) fun v134_136 => obP (asB v134_136) fun b137 => bP b137 (Z (Value.bool false) (lowered h106 (lowered h103 (lowered h100 (lowered h97 (lowered h94 (lowered h91 h88.low).low).low).low).low).low)) (A11_3 v83_90 v85_93 v87_96 v89_99 v91_102 v93_105 (Value.int .i64 0) (lowered h106 (lowered h103 (lowered h100 (lowered h97 (lowered h94 (lowered h91 h88.low).low).low).low).low).low) Z))))) : A11_2 v5 v7 h Z := by
  intro a e5 e7
  subst e5 e7
  refine W_seq ?_
  refine W_plain ?_
  refine VO_1 (s_loadN ag28 sz28) H fun v73_72 H => ?_
  refine VO_2 (s_al zc28) H fun v9_73 h74 H => ?_
  refine VO_3 (s_store sz28) H fun h75 H => ?_
  refine VO_nil ?_
  refine kont_seq ?_
  refine W_seq ?_
  refine W_drawF dp11_17 ?_
  refine VF_2 rfl (s_bldSl el26 sz37 zr37 fil_nil rfl) H fun v74_76 h77 H => ?_
  refine VF_1 rfl (s_fa tf28_2 rfl) H fun v75_78 H => ?_
  refine VF_1 rfl (s_load1 ag26) H fun v76_79 H => ?_
  refine VF_2 rfl (s_app el26 ud26 sz37 by37 zr37) H fun v77_80 h81 H => ?_
  refine VF_1 rfl (s_loadN ag37 sz37) H fun v78_82 H => ?_
  refine VF_2 rfl (s_bldSl el26 sz37 zr37 (fil_cons rfl fil_nil) (fil_top rfl)) H fun v79_83 h84 H => ?_
  refine VF_2 rfl (s_app el26 ud26 sz37 by37 zr37) H fun v80_85 h86 H => ?_
  refine VF_1 rfl (s_fa tf28_2 rfl) H fun v81_87 H => ?_
  refine VF_3 rfl (s_store sz26) H fun h88 H => ?_
  refine VF_nil ?_
  refine ⟨eA_cons H.1 eA_nil, ?_⟩
  replace H := H.2
  refine kont_seq ?_
  refine W_seq ?_
  refine W_drawF dp11_18 ?_
  refine VF_1 rfl (s_loadN ag28 sz28) H fun v82_89 H => ?_
  refine VF_4 rfl rfl H fun v83_90 h91 H => ?_
  refine VF_1 rfl (s_loadN ag28 sz28) H fun v84_92 H => ?_
  refine VF_4 rfl rfl H fun v85_93 h94 H => ?_
  refine VF_1 rfl (s_loadN ag28 sz28) H fun v86_95 H => ?_
  refine VF_4 rfl rfl H fun v87_96 h97 H => ?_
  refine VF_5 rfl s_assign ?_
  refine VF_5 rfl s_assign ?_
  refine VF_5 rfl s_assign ?_
  refine VF_nil ?_
  refine ⟨eA_cons H.1.1 (eA_cons H.1.2.1 (eA_cons H.1.2.2 eA_nil)), ?_⟩
  replace H := H.2
  refine kont_seq ?_
  refine W_seq ?_
  refine W_drawF dp11_19 ?_
  refine VF_1 rfl (s_loadN ag28 sz28) H fun v88_98 H => ?_
  refine VF_4 rfl rfl H fun v89_99 h100 H => ?_
  refine VF_1 rfl (s_loadN ag28 sz28) H fun v90_101 H => ?_
  refine VF_4 rfl rfl H fun v91_102 h103 H => ?_
  refine VF_1 rfl (s_loadN ag28 sz28) H fun v92_104 H => ?_
  refine VF_4 rfl rfl H fun v93_105 h106 H => ?_
  refine VF_5 rfl s_assign ?_
  refine VF_5 rfl s_assign ?_
  refine VF_5 rfl s_assign ?_
  refine VF_nil ?_
  refine ⟨eA_cons H.1.1 (eA_cons H.1.2.1 (eA_cons H.1.2.2 eA_nil)), ?_⟩
  replace H := H.2
  refine kont_seq ?_
  refine W_seq ?_
  refine W_seq ?_
  refine W_plain ?_
  refine VO_5 s_move ?_
  refine VO_1 (s_lenS ud64) H fun v95_107 H => ?_
  refine VO_1 (s_fa tf28_1 rfl) H fun v96_108 H => ?_
  refine VO_1 (s_load1 ag25) H fun v97_109 H => ?_
  refine VO_1 (s_lenS ud25) H fun v98_110 H => ?_
  refine VO_1 s_ibin H fun v99_111 H => ?_
  refine VO_5 s_move ?_
  refine obP_elim H fun w112 ew112 H => ?_
  refine VO_5m rfl ew112 s_move ?_
  refine VO_1g rfl ew112 (s_lenS ud65) H fun v102_113 H => ?_
  refine VO_5m rfl ew112 s_move ?_
  refine VO_1g rfl ew112 (s_lenS ud64) H fun v104_114 H => ?_
  refine VO_1g rfl ew112 s_ibin H fun v105_115 H => ?_
  refine VO_1 s_pk H fun v106_116 H => ?_
  refine VO_5 s_move ?_
  refine obP_elim H fun w117 ew117 H => ?_
  refine VO_5m rfl ew117 s_move ?_
  refine VO_1g rfl ew117 (s_lenS ud65) H fun v109_118 H => ?_
  refine VO_5m rfl ew117 s_move ?_
  refine VO_1g rfl ew117 (s_lenS ud64) H fun v111_119 H => ?_
  refine VO_1g rfl ew117 s_ibin H fun v112_120 H => ?_
  refine VO_1 s_pk H fun v113_121 H => ?_
  refine VO_5 s_move ?_
  refine obP_elim H fun w122 ew122 H => ?_
  refine VO_5m rfl ew122 s_move ?_
  refine VO_1g rfl ew122 (s_lenS ud64) H fun v116_123 H => ?_
  refine VO_5m rfl ew122 s_move ?_
  refine VO_1g rfl ew122 (s_lenS ud64) H fun v118_124 H => ?_
  refine VO_1g rfl ew122 s_ibin H fun v119_125 H => ?_
  refine VO_1 s_pk H fun v120_126 H => ?_
  refine VO_5 s_move ?_
  refine obP_elim H fun w127 ew127 H => ?_
  refine VO_5m rfl ew127 s_move ?_
  refine VO_1g rfl ew127 (s_lenS ud65) H fun v123_128 H => ?_
  refine VO_5m rfl ew127 s_move ?_
  refine VO_1g rfl ew127 (s_lenS ud64) H fun v125_129 H => ?_
  refine VO_1g rfl ew127 s_ibin H fun v126_130 H => ?_
  refine VO_1 s_pk H fun v127_131 H => ?_
  refine VO_5 s_move ?_
  refine obP_elim H fun w132 ew132 H => ?_
  refine VO_5m rfl ew132 s_move ?_
  refine VO_1g rfl ew132 (s_lenS ud65) H fun v130_133 H => ?_
  refine VO_5m rfl ew132 s_move ?_
  refine VO_1g rfl ew132 (s_lenS ud64) H fun v132_134 H => ?_
  refine VO_1g rfl ew132 s_ibin H fun v133_135 H => ?_
  refine VO_1 s_pk H fun v134_136 H => ?_
  refine VO_nil ?_
  refine kont_seq ?_
  refine obP_elim H fun b137 eb137 H => W_cond eb137 (bP_imp H (fun H => ?_) (fun H => ?_))
  · refine W_seq ?_
    refine W_plain ?_
    refine VO_5 s_assign ?_
    refine VO_nil ?_
    refine kont_seq ?_
    refine W_ret ?_
    refine kont_xs rfl ?_
    exact ⟨rfl, obP_of (dres_mk (lm_cons rfl lm_nil)) H⟩
  · refine W_skip ?_
    refine kont_seq ?_
    refine W_seq ?_
    refine W_seq ?_
    refine W_plain ?_
    refine VO_5 s_assign ?_
    refine VO_nil ?_
    refine kont_seq ?_
    refine W_block ?_
    exact H _ rfl rfl rfl rfl rfl rfl rfl

theorem R11_3 {v10 v11 v12 v13 v14 v15 v16 : Value} {h : DH} {Z : Value → DH → Prop} (H : obP (lenS v10) fun v137_138 => obP (ibin .lss v16 v137_138) fun v138_139 => obP (asB v138_139) fun b140 => bP b140 (obP (iaS 1 v10 v16) fun v143_141 => obP (ld1 h v143_141) fun v144_142 => obP (gotB v144_142 true) fun w143 => g1 w143 (iaS 1 (sel w143 v13 undef) (sel w143 v16 undef)) fun v148_144 => g1 w143 (ld1 h v148_144) fun v149_145 => g1 w143 (bnot v149_145) fun v150_146 => obP (pk v144_142 v150_146 (Value.bool false)) fun v151_147 => obP (gotB v151_147 false) fun w148 => g1 w148 (iaS 1 (sel w148 v11 undef) (sel w148 v16 undef)) fun v155_149 => g1 w148 (ld1 h v155_149) fun v156_150 => g1 w148 (iaS 1 (sel w148 v14 undef) (sel w148 v16 undef)) fun v159_151 => g1 w148 (ld1 h v159_151) fun v160_152 => g4 Try.prog w148 46 [v156_150, v160_152] h fun v161_153 h154 => g1 w148 (bnot v161_153) fun v162_155 => obP (pk v151_147 (Value.bool true) v162_155) fun v163_156 => obP (gotB v163_156 false) fun w157 => g1 w157 (iaS 1 (sel w157 v12 undef) (sel w157 v16 undef)) fun v167_158 => g1 w157 (ld1 h154 v167_158) fun v168_159 => g1 w157 (iaS 1 (sel w157 v15 undef) (sel w157 v16 undef)) fun v171_160 => g1 w157 (ld1 h154 v171_160) fun v172_161 => g4 Try.prog w157 46 [v168_159, v172_161] h154 fun v173_162 h163 => g1 w157 (bnot v173_162) fun v174_164 => obP (pk v163_156 (Value.bool true) v174_164) fun v175_165 => obP (asB v175_165) fun b166 => bP b166 (Z (Value.bool false) h163) (obP (ibin .add v16 (Value.int .i64 1)) fun v140_167 => A11_3 v10 v11 v12 v13 v14 v15 v140_167 h163 Z)) (Z (Value.bool true) h)) : A11_3 v10 v11 v12 v13 v14 v15 v16 h Z := by
  intro a e10 e11 e12 e13 e14 e15 e16
  subst e10 e11 e12 e13 e14 e15 e16
  refine W_loop ?_
  refine W_seq ?_
  refine W_seq ?_
  refine W_plain ?_
  refine VO_5 s_move ?_
  refine VO_5 s_move ?_
  refine VO_1 (s_lenS ud64) H fun v137_138 H => ?_
  refine VO_1 s_ibin H fun v138_139 H => ?_
  refine VO_nil ?_
  refine kont_seq ?_
  refine obP_elim H fun b140 eb140 H => W_cond eb140 (bP_imp H (fun H => ?_) (fun H => ?_))
  · refine W_skip ?_
    refine kont_seq ?_
    refine W_seq ?_
    refine W_block ?_
    refine W_seq ?_
    refine W_draw dp11_25 ?_
    refine VO_5 s_move ?_
    refine VO_5 s_move ?_
    refine VO_1 (s_iaS sl64 el64 sz4) H fun v143_141 H => ?_
    refine VO_1 (s_load1 ag4) H fun v144_142 H => ?_
    refine VO_5 s_move ?_
    refine obP_elim H fun w143 ew143 H => ?_
    refine VO_5m rfl ew143 s_move ?_
    refine VO_5m rfl ew143 s_move ?_
    refine VO_1g rfl ew143 (s_iaS sl64 el64 sz4) H fun v148_144 H => ?_
    refine VO_1g rfl ew143 (s_load1 ag4) H fun v149_145 H => ?_
    refine VO_1g rfl ew143 s_not H fun v150_146 H => ?_
    refine VO_1 s_pk H fun v151_147 H => ?_
    refine VO_5 s_move ?_
    refine obP_elim H fun w148 ew148 H => ?_
    refine VO_5m rfl ew148 s_move ?_
    refine VO_5m rfl ew148 s_move ?_
    refine VO_1g rfl ew148 (s_iaS sl65 el65 sz64) H fun v155_149 H => ?_
    refine VO_1g rfl ew148 (s_load1 ag64) H fun v156_150 H => ?_
    refine VO_5m rfl ew148 s_move ?_
    refine VO_5m rfl ew148 s_move ?_
    refine VO_1g rfl ew148 (s_iaS sl65 el65 sz64) H fun v159_151 H => ?_
    refine VO_1g rfl ew148 (s_load1 ag64) H fun v160_152 H => ?_
    refine VO_4g rfl ew148 rfl H fun v161_153 h154 H => ?_
    refine VO_1g rfl ew148 s_not H fun v162_155 H => ?_
    refine VO_1 s_pk H fun v163_156 H => ?_
    refine VO_5 s_move ?_
    refine obP_elim H fun w157 ew157 H => ?_
    refine VO_5m rfl ew157 s_move ?_
    refine VO_5m rfl ew157 s_move ?_
    refine VO_1g rfl ew157 (s_iaS sl65 el65 sz64) H fun v167_158 H => ?_
    refine VO_1g rfl ew157 (s_load1 ag64) H fun v168_159 H => ?_
    refine VO_5m rfl ew157 s_move ?_
    refine VO_5m rfl ew157 s_move ?_
    refine VO_1g rfl ew157 (s_iaS sl65 el65 sz64) H fun v171_160 H => ?_
    refine VO_1g rfl ew157 (s_load1 ag64) H fun v172_161 H => ?_
    refine VO_4g rfl ew157 rfl H fun v173_162 h163 H => ?_
    refine VO_1g rfl ew157 s_not H fun v174_164 H => ?_
    refine VO_1 s_pk H fun v175_165 H => ?_
    refine VO_nil ?_
    refine kont_seq ?_
    refine obP_elim H fun b166 eb166 H => W_cond eb166 (bP_imp H (fun H => ?_) (fun H => ?_))
    · refine W_seq ?_
      refine W_plain ?_
      refine VO_5 s_assign ?_
      refine VO_nil ?_
      refine kont_seq ?_
      refine W_ret ?_
      refine kont_block ?_
      refine kont_xs rfl ?_
      refine kont_xl rfl ?_
      refine kont_block ?_
      refine kont_xs rfl ?_
      exact ⟨rfl, obP_of (dres_mk (lm_cons rfl lm_nil)) H⟩
    · refine W_skip ?_
      refine kont_block ?_
      refine kont_seq ?_
      refine W_plain ?_
      refine VO_5 s_move ?_
      refine VO_1 s_ibin H fun v140_167 H => ?_
      refine VO_5 s_assign ?_
      refine VO_nil ?_
      exact kont_loop (H _ rfl rfl rfl rfl rfl rfl rfl)
  · refine W_exit ?_
    refine kont_xs rfl ?_
    refine kont_xl rfl ?_
    refine kont_block ?_
    refine kont_seq ?_
    refine W_seq ?_
    refine W_plain ?_
    refine VO_5 s_assign ?_
    refine VO_nil ?_
    refine kont_seq ?_
    refine W_ret ?_
    exact ⟨rfl, obP_of (dres_mk (lm_cons rfl lm_nil)) H⟩

end Go.Det
end
/- PRINTED BY gen.py: the conditions of functions. -/
set_option linter.unusedVariables false
set_option linter.unusedSimpArgs false
set_option maxRecDepth 100000
noncomputable section
namespace Go.Det
open Go.Proofs
-- (lemmata/lemmataref11.Sets).Row
noncomputable def body40 : Code := Cd.bO Try.f40
theorem df40 : dfunc Try.prog 40 = some ⟨Try.f40, body40⟩ := by kernel_rfl
def A40_1 (v2 v3 v8 v9 : Value) (h : DH) (Z : Value → DH → Prop) : Prop := ∀ a : DA, DA.val a 2 = v2 → DA.val a 3 = v3 → DA.val a 8 = v8 → DA.val a 9 = v9 → W Try.prog (Cd.bB (Cd.sR (Cd.sL (Cd.sR (Cd.sR body40))))) a h (kont Try.prog [.block 0, .seq (Cd.sR (Cd.sR (Cd.sR body40)))] (Fin Try.prog Try.f40 Z))
def A40_2 (v2 v3 v8 v9 v10 v11 : Value) (h : DH) (Z : Value → DH → Prop) : Prop := ∀ a : DA, DA.val a 2 = v2 → DA.val a 3 = v3 → DA.val a 8 = v8 → DA.val a 9 = v9 → DA.val a 10 = v10 → DA.val a 11 = v11 → W Try.prog (Cd.bB (Cd.sR (Cd.sL (Cd.sR (Cd.sR (Cd.bB (Cd.sL (Cd.sR (Cd.lB (Cd.bB (Cd.sR (Cd.sL (Cd.sR (Cd.sR body40)))))))))))))) a h (kont Try.prog [.block 2, .seq (Cd.sR (Cd.sR (Cd.sR (Cd.bB (Cd.sL (Cd.sR (Cd.lB (Cd.bB (Cd.sR (Cd.sL (Cd.sR (Cd.sR body40)))))))))))), .block 1, .seq (Cd.sR (Cd.sR (Cd.lB (Cd.bB (Cd.sR (Cd.sL (Cd.sR (Cd.sR body40)))))))), .loop (Cd.lB (Cd.bB (Cd.sR (Cd.sL (Cd.sR (Cd.sR body40)))))), .block 0, .seq (Cd.sR (Cd.sR (Cd.sR body40)))] (Fin Try.prog Try.f40 Z))
theorem R40 {v0 v1 v2 : Value} {h : DH} {Z : Value → DH → Prop} (H : oh (bx 67 h v0) fun v3_1 h2 => oh (bx 28 h2 v1) fun v4_3 h4 => obP (fa 0 v4_3) fun v12_5 => obP (ld1 h4 v12_5) fun v13_6 => obP (lenS v13_6) fun v14_7 => oh (mkS 4 1 1 [(Value.bool false)] h4 v14_7 v14_7) fun v15_8 h9 => A40_1 v2 v3_1 v15_8 (Value.int .i64 0) h9 Z) : CP Try.prog 40 [v0, v1, v2] h Z := by
  refine CP_of df40 ?_
  refine W_seq ?_
  refine W_plain ?_
  refine VO_2 s_box H fun v3_1 h2 H => ?_
  refine VO_2 s_box H fun v4_3 h4 H => ?_
  refine VO_5 s_assign ?_
  refine VO_5 s_assign ?_
  refine VO_nil ?_
  refine kont_seq ?_
  refine W_seq ?_
  refine W_plain ?_
  refine VO_1 (s_fa tf28_0 rfl) H fun v12_5 H => ?_
  refine VO_1 (s_load1 ag24) H fun v13_6 H => ?_
  refine VO_1 (s_lenS ud24) H fun v14_7 H => ?_
  refine VO_2 (s_mkS el64 sz4 zr4 by4) H fun v15_8 h9 H => ?_
  refine VO_5 s_assign ?_
  refine VO_nil ?_
  refine kont_seq ?_
  refine W_seq ?_
  refine W_seq ?_
  refine W_plain ?_
  refine VO_5 s_assign ?_
  refine VO_nil ?_
  refine kont_seq ?_
  refine W_block ?_
  exact H _ rfl rfl rfl rfl

theorem R40_1 {v2 v3 v8 v9 : Value} {h : DH} {Z : Value → DH → Prop} (H : obP (lenS v2) fun v18_10 => obP (ibin .lss v9 v18_10) fun v19_11 => obP (asB v19_11) fun b12 => bP b12 (obP (iaS 2 v2 v9) fun v24_13 => obP (ldN 2 h v24_13) fun v25_14 => oh (al 90 [(Value.bool false), (Value.int .i64 0)] h) fun v10_15 h16 => obP (st 2 h16 v10_15 v25_14) fun h17 => obP (fa 0 v10_15) fun v26_18 => obP (ld1 h17 v26_18) fun v27_19 => obP (asB v27_19) fun b20 => bP b20 (obP (fa 1 v10_15) fun v29_21 => obP (ld1 h17 v29_21) fun v30_22 => obP (iaS 1 v8 v30_22) fun v31_23 => obP (st 1 h17 v31_23 (Value.bool true)) fun h24 => Z (.tuple ⟨[v8, (Value.bool false)]⟩) h24) (A40_2 v2 v3 v8 v9 v10_15 (Value.int .i64 0) h17 Z)) (Z (.tuple ⟨[v8, (Value.bool true)]⟩) h)) : A40_1 v2 v3 v8 v9 h Z := by
  intro a e2 e3 e8 e9
  subst e2 e3 e8 e9
  refine W_loop ?_
  refine W_seq ?_
  refine W_seq ?_
  refine W_plain ?_
  refine VO_5 s_move ?_
  refine VO_5 s_move ?_
  refine VO_1 (s_lenS ud34) H fun v18_10 H => ?_
  refine VO_1 s_ibin H fun v19_11 H => ?_
  refine VO_nil ?_
  refine kont_seq ?_
  refine obP_elim H fun b12 eb12 H => W_cond eb12 (bP_imp H (fun H => ?_) (fun H => ?_))
  · refine W_skip ?_
    refine kont_seq ?_
    refine W_seq ?_
    refine W_block ?_
    refine W_seq ?_
    refine W_plain ?_
    refine VO_5 s_move ?_
    refine VO_5 s_move ?_
    refine VO_1 (s_iaS sl34 el34 sz90) H fun v24_13 H => ?_
    refine VO_1 (s_loadN ag90 sz90) H fun v25_14 H => ?_
    refine VO_2 (s_al zc90) H fun v10_15 h16 H => ?_
    refine VO_3 (s_store sz90) H fun h17 H => ?_
    refine VO_nil ?_
    refine kont_seq ?_
    refine W_seq ?_
    refine W_seq ?_
    refine W_plain ?_
    refine VO_1 (s_fa tf90_0 rfl) H fun v26_18 H => ?_
    refine VO_1 (s_load1 ag4) H fun v27_19 H => ?_
    refine VO_nil ?_
    refine kont_seq ?_
    refine obP_elim H fun b20 eb20 H => W_cond eb20 (bP_imp H (fun H => ?_) (fun H => ?_))
    · refine W_seq ?_
      refine W_plain ?_
      refine VO_5 s_move ?_
      refine VO_1 (s_fa tf90_1 rfl) H fun v29_21 H => ?_
      refine VO_1 (s_load1 ag3) H fun v30_22 H => ?_
      refine VO_1 (s_iaS sl64 el64 sz4) H fun v31_23 H => ?_
      refine VO_3 (s_store sz4) H fun h24 H => ?_
      refine VO_nil ?_
      refine kont_seq ?_
      refine W_seq ?_
      refine W_plain ?_
      refine VO_5 s_move ?_
      refine VO_5 s_assign ?_
      refine VO_5 s_assign ?_
      refine VO_nil ?_
      refine kont_seq ?_
      refine W_ret ?_
      refine kont_xs rfl ?_
      refine kont_block ?_
      refine kont_xs rfl ?_
      refine kont_xl rfl ?_
      refine kont_block ?_
      refine kont_xs rfl ?_
      exact ⟨rfl, obP_of (dres_mk (lm_cons rfl (lm_cons rfl lm_nil))) H⟩
    · refine W_skip ?_
      refine kont_seq ?_
      refine W_seq ?_
      refine W_seq ?_
      refine W_plain ?_
      refine VO_5 s_assign ?_
      refine VO_nil ?_
      refine kont_seq ?_
      refine W_block ?_
      exact H _ rfl rfl rfl rfl rfl rfl
  · refine W_exit ?_
    refine kont_xs rfl ?_
    refine kont_xl rfl ?_
    refine kont_block ?_
    refine kont_seq ?_
    refine W_seq ?_
    refine W_plain ?_
    refine VO_5 s_move ?_
    refine VO_5 s_assign ?_
    refine VO_5 s_assign ?_
    refine VO_nil ?_
    refine kont_seq ?_
    refine W_ret ?_
    exact ⟨rfl, obP_of (dres_mk (lm_cons rfl (lm_cons rfl lm_nil))) H⟩

theorem R40_2 {v2 v3 v8 v9 v10 v11 : Value} {h : DH} {Z : Value → DH → Prop} (H : obP (lenS v8) fun v35_25 => obP (ibin .lss v11 v35_25) fun v36_26 => obP (asB v36_26) fun b27 => bP b27 (obP (iaS 1 v8 v11) fun v43_28 => obP (ld1 h v43_28) fun v44_29 => obP (gotB v44_29 false) fun w30 => g1 w30 (fa 1 v3) fun v46_31 => g1 w30 (ld1 h v46_31) fun v47_32 => g1 w30 (fa 1 v10) fun v48_33 => g1 w30 (ld1 h v48_33) fun v49_34 => g1 w30 (iaS 1 v47_32 v49_34) fun v50_35 => g1 w30 (ld1 h v50_35) fun v51_36 => g1 w30 (iaS 1 v51_36 (sel w30 v11 undef)) fun v53_37 => g1 w30 (ld1 h v53_37) fun v54_38 => obP (pk v44_29 (Value.bool true) v54_38) fun v55_39 => obP (iaS 1 v8 v11) fun v56_40 => obP (st 1 h v56_40 v55_39) fun h41 => obP (ibin .add v11 (Value.int .i64 1)) fun v38_42 => A40_2 v2 v3 v8 v9 v10 v38_42 h41 Z) (obP (fa 0 v3) fun v57_43 => obP (ld1 h v57_43) fun v58_44 => obP (fa 1 v10) fun v59_45 => obP (ld1 h v59_45) fun v60_46 => obP (iaS 1 v58_44 v60_46) fun v61_47 => obP (ld1 h v61_47) fun v62_48 => obP (bnot v62_48) fun v63_49 => obP (asB v63_49) fun b50 => bP b50 (Z (.tuple ⟨[v8, (Value.bool false)]⟩) h) (obP (ibin .add v9 (Value.int .i64 1)) fun v21_51 => A40_1 v2 v3 v8 v21_51 h Z))) : A40_2 v2 v3 v8 v9 v10 v11 h Z := by
  intro a e2 e3 e8 e9 e10 e11
  subst e2 e3 e8 e9 e10 e11
  refine W_loop ?_
  refine W_seq ?_
  refine W_seq ?_
  refine W_plain ?_
  refine VO_5 s_move ?_
  refine VO_5 s_move ?_
  refine VO_1 (s_lenS ud64) H fun v35_25 H => ?_
  refine VO_1 s_ibin H fun v36_26 H => ?_
  refine VO_nil ?_
  refine kont_seq ?_
  refine obP_elim H fun b27 eb27 H => W_cond eb27 (bP_imp H (fun H => ?_) (fun H => ?_))
  · refine W_skip ?_
    refine kont_seq ?_
    refine W_seq ?_
    refine W_block ?_
    refine W_plain ?_
    refine VO_5 s_move ?_
    refine VO_5 s_move ?_
    refine VO_5 s_move ?_
    refine VO_5 s_move ?_
    refine VO_1 (s_iaS sl64 el64 sz4) H fun v43_28 H => ?_
    refine VO_1 (s_load1 ag4) H fun v44_29 H => ?_
    refine VO_5 s_move ?_
    refine obP_elim H fun w30 ew30 H => ?_
    refine VO_1g rfl ew30 (s_fa tf67_1 rfl) H fun v46_31 H => ?_
    refine VO_1g rfl ew30 (s_load1 ag65) H fun v47_32 H => ?_
    refine VO_1g rfl ew30 (s_fa tf90_1 rfl) H fun v48_33 H => ?_
    refine VO_1g rfl ew30 (s_load1 ag3) H fun v49_34 H => ?_
    refine VO_1g rfl ew30 (s_iaS sl65 el65 sz64) H fun v50_35 H => ?_
    refine VO_1g rfl ew30 (s_load1 ag64) H fun v51_36 H => ?_
    refine VO_5m rfl ew30 s_move ?_
    refine VO_1g rfl ew30 (s_iaS sl64 el64 sz4) H fun v53_37 H => ?_
    refine VO_1g rfl ew30 (s_load1 ag4) H fun v54_38 H => ?_
    refine VO_1 s_pk H fun v55_39 H => ?_
    refine VO_1 (s_iaS sl64 el64 sz4) H fun v56_40 H => ?_
    refine VO_3 (s_store sz4) H fun h41 H => ?_
    refine VO_nil ?_
    refine kont_block ?_
    refine kont_seq ?_
    refine W_plain ?_
    refine VO_5 s_move ?_
    refine VO_1 s_ibin H fun v38_42 H => ?_
    refine VO_5 s_assign ?_
    refine VO_nil ?_
    exact kont_loop (H _ rfl rfl rfl rfl rfl rfl)
  · refine W_exit ?_
    refine kont_xs rfl ?_
    refine kont_xl rfl ?_
    refine kont_block ?_
    refine kont_seq ?_
    refine W_seq ?_
    refine W_plain ?_
    refine VO_1 (s_fa tf67_0 rfl) H fun v57_43 H => ?_
    refine VO_1 (s_load1 ag64) H fun v58_44 H => ?_
    refine VO_1 (s_fa tf90_1 rfl) H fun v59_45 H => ?_
    refine VO_1 (s_load1 ag3) H fun v60_46 H => ?_
    refine VO_1 (s_iaS sl64 el64 sz4) H fun v61_47 H => ?_
    refine VO_1 (s_load1 ag4) H fun v62_48 H => ?_
    refine VO_1 s_not H fun v63_49 H => ?_
    refine VO_nil ?_
    refine kont_seq ?_
    refine obP_elim H fun b50 eb50 H => W_cond eb50 (bP_imp H (fun H => ?_) (fun H => ?_))
    · refine W_seq ?_
      refine W_plain ?_
      refine VO_5 s_move ?_
      refine VO_5 s_assign ?_
      refine VO_5 s_assign ?_
      refine VO_nil ?_
      refine kont_seq ?_
      refine W_ret ?_
      refine kont_block ?_
      refine kont_xs rfl ?_
      refine kont_xl rfl ?_
      refine kont_block ?_
      refine kont_xs rfl ?_
      exact ⟨rfl, obP_of (dres_mk (lm_cons rfl (lm_cons rfl lm_nil))) H⟩
    · refine W_skip ?_
      refine kont_block ?_
      refine kont_seq ?_
      refine W_plain ?_
      refine VO_5 s_move ?_
      refine VO_1 s_ibin H fun v21_51 H => ?_
      refine VO_5 s_assign ?_
      refine VO_nil ?_
      exact kont_loop (H _ rfl rfl rfl rfl)

-- (lemmata/lemmataref11.Sets).behind
noncomputable def body72 : Code := Cd.bO Try.f72
theorem df72 : dfunc Try.prog 72 = some ⟨Try.f72, body72⟩ := by kernel_rfl
theorem dp72_2 : drawPairs (Cd.rO (Cd.sL (Cd.sR (Cd.sR body72)))) = some [] := by kernel_rfl
theorem dp72_3 : drawPairs (Cd.rO (Cd.sL (Cd.sR (Cd.sR (Cd.sR body72))))) = some [] := by kernel_rfl
def A72_1 (v4 v6 v9 v10 v11 v12 v13 : Value) (h : DH) (Z : Value → DH → Prop) : Prop := ∀ a : DA, DA.val a 4 = v4 → DA.val a 6 = v6 → DA.val a 9 = v9 → DA.val a 10 = v10 → DA.val a 11 = v11 → DA.val a 12 = v12 → DA.val a 13 = v13 → W Try.prog (Cd.bB (Cd.sR (Cd.sL (Cd.sR (Cd.sR (Cd.sR (Cd.sR body72))))))) a h (kont Try.prog [.block 0, .seq (Cd.sR (Cd.sR (Cd.sR (Cd.sR (Cd.sR body72)))))] (Fin Try.prog Try.f72 Z))
theorem R72 {v0 v1 v2 v3 : Value} {h : DH} {Z : Value → DH → Prop} (H : oh (bx 67 h v0) fun v4_1 h2 => oh (bx 28 h2 v1) fun v5_3 h4 => oh (bx 37 h4 v2) fun v6_5 h6 => obP (ldN 3 h6 v4_1) fun v15_7 => obP (ldN 3 h6 v5_3) fun v16_8 => obP (fa 1 v6_5) fun v17_9 => obP (ld1 h6 v17_9) fun v18_10 => obP (ibin .add v3 (Value.int .i64 1)) fun v20_11 => obP (slS 90 2 h6 v18_10 (some v20_11) none) fun v21_12 => CP Try.prog 40 [v15_7, v16_8, v21_12] h6 fun v22_13 h14 => obP (ext1 v22_13 0) fun v23_15 => obP (ext1 v22_13 1) fun v24_16 => obP (fa 2 v4_1) fun v25_17 => obP (ld1 h14 v25_17) fun v26_18 => obP (fa 1 v6_5) fun v27_19 => obP (ld1 h14 v27_19) fun v28_20 => obP (iaS 2 v28_20 v3) fun v30_21 => obP (fa 1 v30_21) fun v31_22 => obP (ld1 h14 v31_22) fun v32_23 => obP (iaS 1 v26_18 v32_23) fun v33_24 => obP (ld1 h14 v33_24) fun v34_25 => A72_1 v4_1 v6_5 (Value.bool false) v23_15 v24_16 v34_25 (Value.int .i64 0) h14 Z) : CP Try.prog 72 [v0, v1, v2, v3] h Z := by
  refine CP_of df72 ?_
  refine W_seq ?_
  refine W_plain ?_
  refine VO_2 s_box H fun v4_1 h2 H => ?_
  refine VO_2 s_box H fun v5_3 h4 H => ?_
  refine VO_2 s_box H fun v6_5 h6 H => ?_
  refine VO_5 s_assign ?_
  refine VO_nil ?_
  refine kont_seq ?_
  refine W_seq ?_
  refine W_plain ?_
  refine VO_5 s_assign ?_
  refine VO_nil ?_
  refine kont_seq ?_
  refine W_seq ?_
  refine W_draw dp72_2 ?_
  refine VO_1 (s_loadN ag67 sz67) H fun v15_7 H => ?_
  refine VO_1 (s_loadN ag28 sz28) H fun v16_8 H => ?_
  refine VO_1 (s_fa tf37_1 rfl) H fun v17_9 H => ?_
  refine VO_1 (s_load1 ag34) H fun v18_10 H => ?_
  refine VO_5 s_move ?_
  refine VO_1 s_ibin H fun v20_11 H => ?_
  refine VO_1 (s_slS ts34 el34 sz90) H fun v21_12 H => ?_
  refine VO_4 rfl H fun v22_13 h14 H => ?_
  refine VO_5 s_move ?_
  refine VO_1 s_ext H fun v23_15 H => ?_
  refine VO_1 s_ext H fun v24_16 H => ?_
  refine VO_5 s_assign ?_
  refine VO_5 s_assign ?_
  refine VO_nil ?_
  refine kont_seq ?_
  refine W_seq ?_
  refine W_draw dp72_3 ?_
  refine VO_1 (s_fa tf67_2 rfl) H fun v25_17 H => ?_
  refine VO_1 (s_load1 ag65) H fun v26_18 H => ?_
  refine VO_1 (s_fa tf37_1 rfl) H fun v27_19 H => ?_
  refine VO_1 (s_load1 ag34) H fun v28_20 H => ?_
  refine VO_5 s_move ?_
  refine VO_1 (s_iaS sl34 el34 sz90) H fun v30_21 H => ?_
  refine VO_1 (s_fa tf90_1 rfl) H fun v31_22 H => ?_
  refine VO_1 (s_load1 ag3) H fun v32_23 H => ?_
  refine VO_1 (s_iaS sl65 el65 sz64) H fun v33_24 H => ?_
  refine VO_1 (s_load1 ag64) H fun v34_25 H => ?_
  refine VO_5 s_assign ?_
  refine VO_nil ?_
  refine kont_seq ?_
  refine W_seq ?_
  refine W_seq ?_
  refine W_plain ?_
  refine VO_5 s_assign ?_
  refine VO_nil ?_
  refine kont_seq ?_
  refine W_block ?_
  exact H _ rfl rfl rfl rfl rfl rfl rfl

theorem R72_1 {v4 v6 v9 v10 v11 v12 v13 : Value} {h : DH} {Z : Value → DH → Prop} (H : obP (lenS v12) fun v37_26 => obP (ibin .lss v13 v37_26) fun v38_27 => obP (asB v38_27) fun b28 => bP b28 (obP (iaS 1 v12 v13) fun v43_29 => obP (ld1 h v43_29) fun v44_30 => obP (bnot v44_30) fun v45_31 => obP (gotB v45_31 true) fun w32 => g1 w32 (lenS (sel w32 v10 undef)) fun v49_33 => g1 w32 (ibin .lss (sel w32 v13 undef) v49_33) fun v50_34 => obP (gotB (sel w32 v50_34 undef) true) fun w35 => g1 w35 (iaS 1 (sel w35 v10 undef) (sel w35 v13 undef)) fun v54_36 => g1 w35 (ld1 h v54_36) fun v55_37 => g1 w32 (pk (sel w32 v50_34 undef) v55_37 (Value.bool false)) fun v56_38 => obP (gotB (sel w32 v56_38 undef) false) fun w39 => obP (gotB (sel w39 (sel w39 v11 undef) undef) true) fun w40 => g1 w40 (fa 2 v4) fun v60_41 => g1 w40 (ld1 h v60_41) fun v61_42 => g1 w40 (fa 0 v6) fun v62_43 => g1 w40 (ld1 h v62_43) fun v63_44 => g1 w40 (iaS 1 v61_42 v63_44) fun v64_45 => g1 w40 (ld1 h v64_45) fun v65_46 => g1 w40 (iaS 1 v65_46 (sel w40 v13 undef)) fun v67_47 => g1 w40 (ld1 h v67_47) fun v68_48 => g1 w39 (pk (sel w39 (sel w39 v11 undef) undef) v68_48 (Value.bool false)) fun v69_49 => g1 w32 (pk (sel w32 v56_38 undef) (Value.bool true) v69_49) fun v70_50 => obP (pk v45_31 v70_50 (Value.bool false)) fun v71_51 => obP (asB v71_51) fun b52 => bP b52 (obP (iaS 1 v12 v13) fun v74_53 => obP (st 1 h v74_53 (Value.bool true)) fun h54 => obP (ibin .add v13 (Value.int .i64 1)) fun v40_55 => A72_1 v4 v6 (Value.bool true) v10 v11 v12 v40_55 h54 Z) (obP (ibin .add v13 (Value.int .i64 1)) fun v40_56 => A72_1 v4 v6 v9 v10 v11 v12 v40_56 h Z)) (Z v9 h)) : A72_1 v4 v6 v9 v10 v11 v12 v13 h Z := by
  intro a e4 e6 e9 e10 e11 e12 e13
  subst e4 e6 e9 e10 e11 e12 e13
  refine W_loop ?_
  refine W_seq ?_
  refine W_seq ?_
  refine W_plain ?_
  refine VO_5 s_move ?_
  refine VO_5 s_move ?_
  refine VO_1 (s_lenS ud64) H fun v37_26 H => ?_
  refine VO_1 s_ibin H fun v38_27 H => ?_
  refine VO_nil ?_
  refine kont_seq ?_
  refine obP_elim H fun b28 eb28 H => W_cond eb28 (bP_imp H (fun H => ?_) (fun H => ?_))
  · refine W_skip ?_
    refine kont_seq ?_
    refine W_seq ?_
    refine W_block ?_
    refine W_seq ?_
    refine W_plain ?_
    refine VO_5 s_move ?_
    refine VO_5 s_move ?_
    refine VO_1 (s_iaS sl64 el64 sz4) H fun v43_29 H => ?_
    refine VO_1 (s_load1 ag4) H fun v44_30 H => ?_
    refine VO_1 s_not H fun v45_31 H => ?_
    refine VO_5 s_move ?_
    refine obP_elim H fun w32 ew32 H => ?_
    refine VO_5m rfl ew32 s_move ?_
    refine VO_5m rfl ew32 s_move ?_
    refine VO_1g rfl ew32 (s_lenS ud64) H fun v49_33 H => ?_
    refine VO_1g rfl ew32 s_ibin H fun v50_34 H => ?_
    refine VO_5m rfl ew32 s_move ?_
    refine obP_elim H fun w35 ew35 H => ?_
    refine VO_5m rfl ew35 s_move ?_
    refine VO_5m rfl ew35 s_move ?_
    refine VO_1g rfl ew35 (s_iaS sl64 el64 sz4) H fun v54_36 H => ?_
    refine VO_1g rfl ew35 (s_load1 ag4) H fun v55_37 H => ?_
    refine VO_1g rfl ew32 s_pk H fun v56_38 H => ?_
    refine VO_5m rfl ew32 s_move ?_
    refine obP_elim H fun w39 ew39 H => ?_
    refine VO_5m rfl ew39 s_move ?_
    refine VO_5m rfl ew39 s_move ?_
    refine obP_elim H fun w40 ew40 H => ?_
    refine VO_1g rfl ew40 (s_fa tf67_2 rfl) H fun v60_41 H => ?_
    refine VO_1g rfl ew40 (s_load1 ag65) H fun v61_42 H => ?_
    refine VO_1g rfl ew40 (s_fa tf37_0 rfl) H fun v62_43 H => ?_
    refine VO_1g rfl ew40 (s_load1 ag3) H fun v63_44 H => ?_
    refine VO_1g rfl ew40 (s_iaS sl65 el65 sz64) H fun v64_45 H => ?_
    refine VO_1g rfl ew40 (s_load1 ag64) H fun v65_46 H => ?_
    refine VO_5m rfl ew40 s_move ?_
    refine VO_1g rfl ew40 (s_iaS sl64 el64 sz4) H fun v67_47 H => ?_
    refine VO_1g rfl ew40 (s_load1 ag4) H fun v68_48 H => ?_
    refine VO_1g rfl ew39 s_pk H fun v69_49 H => ?_
    refine VO_1g rfl ew32 s_pk H fun v70_50 H => ?_
    refine VO_1 s_pk H fun v71_51 H => ?_
    refine VO_nil ?_
    refine kont_seq ?_
    refine obP_elim H fun b52 eb52 H => W_cond eb52 (bP_imp H (fun H => ?_) (fun H => ?_))
    · refine W_plain ?_
      refine VO_5 s_move ?_
      refine VO_5 s_move ?_
      refine VO_1 (s_iaS sl64 el64 sz4) H fun v74_53 H => ?_
      refine VO_3 (s_store sz4) H fun h54 H => ?_
      refine VO_5 s_assign ?_
      refine VO_nil ?_
      refine kont_block ?_
      refine kont_seq ?_
      refine W_plain ?_
      refine VO_5 s_move ?_
      refine VO_1 s_ibin H fun v40_55 H => ?_
      refine VO_5 s_assign ?_
      refine VO_nil ?_
      exact kont_loop (H _ rfl rfl rfl rfl rfl rfl rfl)
    · refine W_skip ?_
      refine kont_block ?_
      refine kont_seq ?_
      refine W_plain ?_
      refine VO_5 s_move ?_
      refine VO_1 s_ibin H fun v40_56 H => ?_
      refine VO_5 s_assign ?_
      refine VO_nil ?_
      exact kont_loop (H _ rfl rfl rfl rfl rfl rfl rfl)
  · refine W_exit ?_
    refine kont_xs rfl ?_
    refine kont_xl rfl ?_
    refine kont_block ?_
    refine kont_seq ?_
    refine W_seq ?_
    refine W_plain ?_
    refine VO_5 s_move ?_
    refine VO_5 s_assign ?_
    refine VO_nil ?_
    refine kont_seq ?_
    refine W_ret ?_
    exact ⟨rfl, obP_of (dres_mk (lm_cons rfl lm_nil)) H⟩

-- lemmata/lemmataref11.Reckon
noncomputable def body33 : Code := Cd.bO Try.f33
theorem df33 : dfunc Try.prog 33 = some ⟨Try.f33, body33⟩ := by kernel_rfl
theorem dp33_5 : drawPairs (Cd.rO (Cd.bB (Cd.sL (Cd.sR (Cd.lB (Cd.bB (Cd.sR (Cd.sL (Cd.sR (Cd.sR body33)))))))))) = some [(7, 9), (7, 11), (7, 12)] := by kernel_rfl
theorem dp33_6 : drawPairs (Cd.rO (Cd.sL (Cd.sR (Cd.sR (Cd.sR body33))))) = some [] := by kernel_rfl
def A33_1 (v1 v2 v3 v4 : Value) (h : DH) (Z : Value → DH → Prop) : Prop := ∀ a : DA, DA.val a 1 = v1 → DA.val a 2 = v2 → DA.val a 3 = v3 → DA.val a 4 = v4 → W Try.prog (Cd.bB (Cd.sR (Cd.sL (Cd.sR (Cd.sR body33))))) a h (kont Try.prog [.block 0, .seq (Cd.sR (Cd.sR (Cd.sR body33)))] (Fin Try.prog Try.f33 Z))
def A33_2 (v1 v2 v3 v5 : Value) (h : DH) (Z : Value → DH → Prop) : Prop := ∀ a : DA, DA.val a 1 = v1 → DA.val a 2 = v2 → DA.val a 3 = v3 → DA.val a 5 = v5 → W Try.prog (Cd.bB (Cd.sR (Cd.sL (Cd.sR (Cd.sR (Cd.sR (Cd.sR body33))))))) a h (kont Try.prog [.block 2, .seq (Cd.sR (Cd.sR (Cd.sR (Cd.sR (Cd.sR body33)))))] (Fin Try.prog Try.f33 Z))
def A33_3 (v1 v2 v3 v5 v6 : Value) (h : DH) (Z : Value → DH → Prop) : Prop := ∀ a : DA, DA.val a 1 = v1 → DA.val a 2 = v2 → DA.val a 3 = v3 → DA.val a 5 = v5 → DA.val a 6 = v6 → W Try.prog (Cd.bB (Cd.sR (Cd.sR (Cd.bB (Cd.sR (Cd.lB (Cd.bB (Cd.sR (Cd.sL (Cd.sR (Cd.sR (Cd.sR (Cd.sR body33))))))))))))) a h (kont Try.prog [.block 4, .block 3, .loop (Cd.lB (Cd.bB (Cd.sR (Cd.sL (Cd.sR (Cd.sR (Cd.sR (Cd.sR body33)))))))), .block 2, .seq (Cd.sR (Cd.sR (Cd.sR (Cd.sR (Cd.sR body33)))))] (Fin Try.prog Try.f33 Z))
def A33_4 (v1 v2 v3 v5 v6 v7 v8 : Value) (h : DH) (Z : Value → DH → Prop) : Prop := ∀ a : DA, DA.val a 1 = v1 → DA.val a 2 = v2 → DA.val a 3 = v3 → DA.val a 5 = v5 → DA.val a 6 = v6 → DA.val a 7 = v7 → DA.val a 8 = v8 → W Try.prog (Cd.sR (Cd.sR (Cd.sR (Cd.bB (Cd.sL (Cd.sR (Cd.lB (Cd.bB (Cd.sR (Cd.sR (Cd.bB (Cd.sR (Cd.lB (Cd.bB (Cd.sR (Cd.sL (Cd.sR (Cd.sR (Cd.sR (Cd.sR body33)))))))))))))))))))) a h (kont Try.prog [.block 5, .seq (Cd.sR (Cd.sR (Cd.lB (Cd.bB (Cd.sR (Cd.sR (Cd.bB (Cd.sR (Cd.lB (Cd.bB (Cd.sR (Cd.sL (Cd.sR (Cd.sR (Cd.sR (Cd.sR body33)))))))))))))))), .loop (Cd.lB (Cd.bB (Cd.sR (Cd.sR (Cd.bB (Cd.sR (Cd.lB (Cd.bB (Cd.sR (Cd.sL (Cd.sR (Cd.sR (Cd.sR (Cd.sR body33)))))))))))))), .block 4, .block 3, .loop (Cd.lB (Cd.bB (Cd.sR (Cd.sL (Cd.sR (Cd.sR (Cd.sR (Cd.sR body33)))))))), .block 2, .seq (Cd.sR (Cd.sR (Cd.sR (Cd.sR (Cd.sR body33)))))] (Fin Try.prog Try.f33 Z))
def A33_5 (v1 v2 v3 v5 v6 v7 v8 v10 : Value) (h : DH) (Z : Value → DH → Prop) : Prop := ∀ a : DA, DA.val a 1 = v1 → DA.val a 2 = v2 → DA.val a 3 = v3 → DA.val a 5 = v5 → DA.val a 6 = v6 → DA.val a 7 = v7 → DA.val a 8 = v8 → DA.val a 10 = v10 → W Try.prog (Cd.bB (Cd.sR (Cd.sL (Cd.sR (Cd.sR (Cd.sR (Cd.bB (Cd.sL (Cd.sR (Cd.lB (Cd.bB (Cd.sR (Cd.sR (Cd.bB (Cd.sR (Cd.lB (Cd.bB (Cd.sR (Cd.sL (Cd.sR (Cd.sR (Cd.sR (Cd.sR body33))))))))))))))))))))))) a h (kont Try.prog [.block 6, .seq (Cd.sR (Cd.sR (Cd.sR (Cd.sR (Cd.bB (Cd.sL (Cd.sR (Cd.lB (Cd.bB (Cd.sR (Cd.sR (Cd.bB (Cd.sR (Cd.lB (Cd.bB (Cd.sR (Cd.sL (Cd.sR (Cd.sR (Cd.sR (Cd.sR body33))))))))))))))))))))), .block 5, .seq (Cd.sR (Cd.sR (Cd.lB (Cd.bB (Cd.sR (Cd.sR (Cd.bB (Cd.sR (Cd.lB (Cd.bB (Cd.sR (Cd.sL (Cd.sR (Cd.sR (Cd.sR (Cd.sR body33)))))))))))))))), .loop (Cd.lB (Cd.bB (Cd.sR (Cd.sR (Cd.bB (Cd.sR (Cd.lB (Cd.bB (Cd.sR (Cd.sL (Cd.sR (Cd.sR (Cd.sR (Cd.sR body33)))))))))))))), .block 4, .block 3, .loop (Cd.lB (Cd.bB (Cd.sR (Cd.sL (Cd.sR (Cd.sR (Cd.sR (Cd.sR body33)))))))), .block 2, .seq (Cd.sR (Cd.sR (Cd.sR (Cd.sR (Cd.sR body33)))))] (Fin Try.prog Try.f33 Z))
def A33_6 (v1 v2 v3 v5 v6 v7 v11 : Value) (h : DH) (Z : Value → DH → Prop) : Prop := ∀ a : DA, DA.val a 1 = v1 → DA.val a 2 = v2 → DA.val a 3 = v3 → DA.val a 5 = v5 → DA.val a 6 = v6 → DA.val a 7 = v7 → DA.val a 11 = v11 → W Try.prog (Cd.bB (Cd.sR (Cd.sR (Cd.sR (Cd.sR (Cd.sR (Cd.bB (Cd.sL (Cd.sR (Cd.lB (Cd.bB (Cd.sR (Cd.sR (Cd.bB (Cd.sR (Cd.lB (Cd.bB (Cd.sR (Cd.sL (Cd.sR (Cd.sR (Cd.sR (Cd.sR body33))))))))))))))))))))))) a h (kont Try.prog [.block 8, .block 5, .seq (Cd.sR (Cd.sR (Cd.lB (Cd.bB (Cd.sR (Cd.sR (Cd.bB (Cd.sR (Cd.lB (Cd.bB (Cd.sR (Cd.sL (Cd.sR (Cd.sR (Cd.sR (Cd.sR body33)))))))))))))))), .loop (Cd.lB (Cd.bB (Cd.sR (Cd.sR (Cd.bB (Cd.sR (Cd.lB (Cd.bB (Cd.sR (Cd.sL (Cd.sR (Cd.sR (Cd.sR (Cd.sR body33)))))))))))))), .block 4, .block 3, .loop (Cd.lB (Cd.bB (Cd.sR (Cd.sL (Cd.sR (Cd.sR (Cd.sR (Cd.sR body33)))))))), .block 2, .seq (Cd.sR (Cd.sR (Cd.sR (Cd.sR (Cd.sR body33)))))] (Fin Try.prog Try.f33 Z))
theorem R33 {v0 : Value} {h : DH} {Z : Value → DH → Prop} (H : oh (bx 28 h v0) fun v1_1 h2 => oh (al 67 [(Value.slice none 0 0), (Value.slice none 0 0), (Value.slice none 0 0)] h2) fun v2_3 h4 => obP (fa 1 v1_1) fun v12_5 => obP (ld1 h4 v12_5) fun v13_6 => obP (lenS v13_6) fun v14_7 => oh (mkS 4 1 1 [(Value.bool false)] h4 v14_7 v14_7) fun v15_8 h9 => obP (bld [(Value.slice none 0 0), (Value.slice none 0 0), (Value.slice none 0 0)] [((0, 1), v15_8)]) fun v16_10 => oh (al 67 [(Value.slice none 0 0), (Value.slice none 0 0), (Value.slice none 0 0)] h9) fun v3_11 h12 => obP (st 3 h12 v3_11 v16_10) fun h13 => A33_1 v1_1 v2_3 v3_11 (Value.int .i64 0) h13 Z) : CP Try.prog 33 [v0] h Z := by
  refine CP_of df33 ?_
  refine W_seq ?_
  refine W_plain ?_
  refine VO_2 s_box H fun v1_1 h2 H => ?_
  refine VO_2 (s_al zc67) H fun v2_3 h4 H => ?_
  refine VO_nil ?_
  refine kont_seq ?_
  refine W_seq ?_
  refine W_plain ?_
  refine VO_1 (s_fa tf28_1 rfl) H fun v12_5 H => ?_
  refine VO_1 (s_load1 ag25) H fun v13_6 H => ?_
  refine VO_1 (s_lenS ud25) H fun v14_7 H => ?_
  refine VO_2 (s_mkS el64 sz4 zr4 by4) H fun v15_8 h9 H => ?_
  refine VO_1 (s_bld zc67 ud67 hs67 (fil_cons tf67_0 fil_nil) (fil_top rfl)) H fun v16_10 H => ?_
  refine VO_2 (s_al zc67) H fun v3_11 h12 H => ?_
  refine VO_3 (s_store sz67) H fun h13 H => ?_
  refine VO_nil ?_
  refine kont_seq ?_
  refine W_seq ?_
  refine W_seq ?_
  refine W_plain ?_
  refine VO_5 s_assign ?_
  refine VO_nil ?_
  refine kont_seq ?_
  refine W_block ?_
  exact H _ rfl rfl rfl rfl

theorem R33_1 {v1 v2 v3 v4 : Value} {h : DH} {Z : Value → DH → Prop} (H : obP (fa 1 v1) fun v18_14 => obP (ld1 h v18_14) fun v19_15 => obP (lenS v19_15) fun v20_16 => obP (ibin .lss v4 v20_16) fun v21_17 => obP (asB v21_17) fun b18 => bP b18 (obP (fa 1 v3) fun v24_19 => obP (ld1 h v24_19) fun v25_20 => obP (fa 0 v1) fun v26_21 => obP (ld1 h v26_21) fun v27_22 => obP (lenS v27_22) fun v28_23 => oh (mkS 4 1 1 [(Value.bool false)] h v28_23 v28_23) fun v29_24 h25 => oh (bldSl 64 1 1 [(Value.slice none 0 0)] [((0, 1), v29_24)] h25) fun v30_26 h27 => oh (appS 64 24 1 h27 v25_20 v30_26) fun v31_28 h29 => obP (fa 2 v3) fun v32_30 => obP (ld1 h29 v32_30) fun v33_31 => obP (fa 0 v1) fun v34_32 => obP (ld1 h29 v34_32) fun v35_33 => obP (lenS v35_33) fun v36_34 => obP (ibin .add v36_34 (Value.int .i64 1)) fun v37_35 => oh (mkS 4 1 1 [(Value.bool false)] h29 v37_35 v37_35) fun v38_36 h37 => oh (bldSl 64 1 1 [(Value.slice none 0 0)] [((0, 1), v38_36)] h37) fun v39_38 h39 => oh (appS 64 24 1 h39 v33_31 v39_38) fun v40_40 h41 => obP (fa 1 v3) fun v41_42 => obP (st 1 h41 v41_42 v31_28) fun h43 => obP (fa 2 v3) fun v42_44 => obP (st 1 h43 v42_44 v40_40) fun h45 => (either (wrOf (blockOf v25_20) (blockOf v30_26)) ⟨some (blockOf v32_30), .none⟩ = true ∧ either (wrOf (blockOf v25_20) (blockOf v30_26)) ⟨some (blockOf v34_32), .none⟩ = true ∧ either (wrOf (blockOf v25_20) (blockOf v30_26)) ⟨some (blockOf v35_33), .none⟩ = true) ∧ (obP (ibin .add v4 (Value.int .i64 1)) fun v23_46 => A33_1 v1 v2 v3 v23_46 h45 Z)) (obP (fa 2 v3) fun v43_47 => obP (ld1 h v43_47) fun v44_48 => obP (iaS 1 v44_48 (Value.int .i64 0)) fun v45_49 => obP (ld1 h v45_49) fun v46_50 => obP (fa 0 v1) fun v47_51 => obP (ld1 h v47_51) fun v48_52 => obP (lenS v48_52) fun v49_53 => obP (iaS 1 v46_50 v49_53) fun v50_54 => obP (st 1 h v50_54 (Value.bool true)) fun h55 => A33_2 v1 v2 v3 (Value.bool true) h55 Z)) : A33_1 v1 v2 v3 v4 h Z := by
  intro a e1 e2 e3 e4
  subst e1 e2 e3 e4
  refine W_loop ?_
  refine W_seq ?_
  refine W_seq ?_
  refine W_plain ?_
  refine VO_5 s_move ?_
  refine VO_1 (s_fa tf28_1 rfl) H fun v18_14 H => ?_
  refine VO_1 (s_load1 ag25) H fun v19_15 H => ?_
  refine VO_1 (s_lenS ud25) H fun v20_16 H => ?_
  refine VO_1 s_ibin H fun v21_17 H => ?_
  refine VO_nil ?_
  refine kont_seq ?_
  refine obP_elim H fun b18 eb18 H => W_cond eb18 (bP_imp H (fun H => ?_) (fun H => ?_))
  · refine W_skip ?_
    refine kont_seq ?_
    refine W_seq ?_
    refine W_block ?_
    refine W_drawF dp33_5 ?_
    refine VF_1 rfl (s_fa tf67_1 rfl) H fun v24_19 H => ?_
    refine VF_1 rfl (s_load1 ag65) H fun v25_20 H => ?_
    refine VF_1 rfl (s_fa tf28_0 rfl) H fun v26_21 H => ?_
    refine VF_1 rfl (s_load1 ag24) H fun v27_22 H => ?_
    refine VF_1 rfl (s_lenS ud24) H fun v28_23 H => ?_
    refine VF_2 rfl (s_mkS el64 sz4 zr4 by4) H fun v29_24 h25 H => ?_
    refine VF_2 rfl (s_bldSl el65 sz64 zr64 (fil_cons rfl fil_nil) (fil_top rfl)) H fun v30_26 h27 H => ?_
    refine VF_2 rfl (s_app el65 ud65 sz64 by64 zr64) H fun v31_28 h29 H => ?_
    refine VF_1 rfl (s_fa tf67_2 rfl) H fun v32_30 H => ?_
    refine VF_1 rfl (s_load1 ag65) H fun v33_31 H => ?_
    refine VF_1 rfl (s_fa tf28_0 rfl) H fun v34_32 H => ?_
    refine VF_1 rfl (s_load1 ag24) H fun v35_33 H => ?_
    refine VF_1 rfl (s_lenS ud24) H fun v36_34 H => ?_
    refine VF_1 rfl s_ibin H fun v37_35 H => ?_
    refine VF_2 rfl (s_mkS el64 sz4 zr4 by4) H fun v38_36 h37 H => ?_
    refine VF_2 rfl (s_bldSl el65 sz64 zr64 (fil_cons rfl fil_nil) (fil_top rfl)) H fun v39_38 h39 H => ?_
    refine VF_2 rfl (s_app el65 ud65 sz64 by64 zr64) H fun v40_40 h41 H => ?_
    refine VF_1 rfl (s_fa tf67_1 rfl) H fun v41_42 H => ?_
    refine VF_3 rfl (s_store sz65) H fun h43 H => ?_
    refine VF_1 rfl (s_fa tf67_2 rfl) H fun v42_44 H => ?_
    refine VF_3 rfl (s_store sz65) H fun h45 H => ?_
    refine VF_nil ?_
    refine ⟨eA_cons H.1.1 (eA_cons H.1.2.1 (eA_cons H.1.2.2 eA_nil)), ?_⟩
    replace H := H.2
    refine kont_block ?_
    refine kont_seq ?_
    refine W_plain ?_
    refine VO_5 s_move ?_
    refine VO_1 s_ibin H fun v23_46 H => ?_
    refine VO_5 s_assign ?_
    refine VO_nil ?_
    exact kont_loop (H _ rfl rfl rfl rfl)
  · refine W_exit ?_
    refine kont_xs rfl ?_
    refine kont_xl rfl ?_
    refine kont_block ?_
    refine kont_seq ?_
    refine W_seq ?_
    refine W_draw dp33_6 ?_
    refine VO_1 (s_fa tf67_2 rfl) H fun v43_47 H => ?_
    refine VO_1 (s_load1 ag65) H fun v44_48 H => ?_
    refine VO_1 (s_iaS sl65 el65 sz64) H fun v45_49 H => ?_
    refine VO_1 (s_load1 ag64) H fun v46_50 H => ?_
    refine VO_1 (s_fa tf28_0 rfl) H fun v47_51 H => ?_
    refine VO_1 (s_load1 ag24) H fun v48_52 H => ?_
    refine VO_1 (s_lenS ud24) H fun v49_53 H => ?_
    refine VO_1 (s_iaS sl64 el64 sz4) H fun v50_54 H => ?_
    refine VO_3 (s_store sz4) H fun h55 H => ?_
    refine VO_nil ?_
    refine kont_seq ?_
    refine W_seq ?_
    refine W_seq ?_
    refine W_plain ?_
    refine VO_5 s_assign ?_
    refine VO_nil ?_
    refine kont_seq ?_
    refine W_block ?_
    exact H _ rfl rfl rfl rfl

theorem R33_2 {v1 v2 v3 v5 : Value} {h : DH} {Z : Value → DH → Prop} (H : obP (asB v5) fun b56 => bP b56 (A33_3 v1 v2 v3 (Value.bool false) (Value.int .i64 0) h Z) (obP (ldN 3 h v3) fun v138_57 => obP (st 3 h v2 v138_57) fun h58 => obP (ldN 3 h58 v2) fun r59 => Z r59 h58)) : A33_2 v1 v2 v3 v5 h Z := by
  intro a e1 e2 e3 e5
  subst e1 e2 e3 e5
  refine W_loop ?_
  refine W_seq ?_
  refine W_seq ?_
  refine W_plain ?_
  refine VO_5 s_move ?_
  refine VO_nil ?_
  refine kont_seq ?_
  refine obP_elim H fun b56 eb56 H => W_cond eb56 (bP_imp H (fun H => ?_) (fun H => ?_))
  · refine W_skip ?_
    refine kont_seq ?_
    refine W_block ?_
    refine W_seq ?_
    refine W_plain ?_
    refine VO_5 s_assign ?_
    refine VO_nil ?_
    refine kont_seq ?_
    refine W_seq ?_
    refine W_plain ?_
    refine VO_5 s_assign ?_
    refine VO_nil ?_
    refine kont_seq ?_
    refine W_block ?_
    exact H _ rfl rfl rfl rfl rfl
  · refine W_exit ?_
    refine kont_xs rfl ?_
    refine kont_xl rfl ?_
    refine kont_block ?_
    refine kont_seq ?_
    refine W_seq ?_
    refine W_plain ?_
    refine VO_1 (s_loadN ag67 sz67) H fun v138_57 H => ?_
    refine VO_3 (s_store sz67) H fun h58 H => ?_
    refine VO_nil ?_
    refine kont_seq ?_
    refine W_ret ?_
    refine obP_elim H fun r59 er59 H => ?_
    exact ⟨rfl, obP_of (dres_mk (lm_cons ((dload_N ag67 sz67).trans er59) lm_nil)) H⟩

theorem R33_3 {v1 v2 v3 v5 v6 : Value} {h : DH} {Z : Value → DH → Prop} (H : obP (fa 2 v1) fun v53_60 => obP (ld1 h v53_60) fun v54_61 => obP (lenS v54_61) fun v55_62 => obP (ibin .lss v6 v55_62) fun v56_63 => obP (asB v56_63) fun b64 => bP b64 (obP (fa 2 v1) fun v59_65 => obP (ld1 h v59_65) fun v60_66 => obP (iaS 3 v60_66 v6) fun v62_67 => obP (ldN 3 h v62_67) fun v63_68 => oh (al 37 [(Value.int .i64 0), (Value.slice none 0 0), (Value.slice none 0 0)] h) fun v7_69 h70 => obP (st 3 h70 v7_69 v63_68) fun h71 => obP (ldN 3 h71 v3) fun v65_72 => obP (ldN 3 h71 v1) fun v66_73 => obP (fa 1 v7_69) fun v67_74 => obP (ld1 h71 v67_74) fun v68_75 => CP Try.prog 40 [v65_72, v66_73, v68_75] h71 fun v69_76 h77 => obP (ext1 v69_76 0) fun v70_78 => obP (ext1 v69_76 1) fun v71_79 => obP (gotB v71_79 true) fun w80 => g1 w80 (fa 0 v3) fun v74_81 => g1 w80 (ld1 h77 v74_81) fun v75_82 => g1 w80 (fa 0 v7_69) fun v76_83 => g1 w80 (ld1 h77 v76_83) fun v77_84 => g1 w80 (iaS 1 v75_82 v77_84) fun v78_85 => g1 w80 (ld1 h77 v78_85) fun v79_86 => g1 w80 (bnot v79_86) fun v80_87 => obP (pk v71_79 v80_87 (Value.bool false)) fun v81_88 => obP (asB v81_88) fun b89 => bP b89 (obP (fa 0 v3) fun v82_90 => obP (ld1 h77 v82_90) fun v83_91 => obP (fa 0 v7_69) fun v84_92 => obP (ld1 h77 v84_92) fun v85_93 => obP (iaS 1 v83_91 v85_93) fun v86_94 => obP (st 1 h77 v86_94 (Value.bool true)) fun h95 => A33_4 v1 v2 v3 (Value.bool true) v6 v7_69 v70_78 h95 Z) (A33_4 v1 v2 v3 v5 v6 v7_69 v70_78 h77 Z)) (A33_2 v1 v2 v3 v5 h Z)) : A33_3 v1 v2 v3 v5 v6 h Z := by
  intro a e1 e2 e3 e5 e6
  subst e1 e2 e3 e5 e6
  refine W_loop ?_
  refine W_seq ?_
  refine W_seq ?_
  refine W_plain ?_
  refine VO_5 s_move ?_
  refine VO_1 (s_fa tf28_2 rfl) H fun v53_60 H => ?_
  refine VO_1 (s_load1 ag26) H fun v54_61 H => ?_
  refine VO_1 (s_lenS ud26) H fun v55_62 H => ?_
  refine VO_1 s_ibin H fun v56_63 H => ?_
  refine VO_nil ?_
  refine kont_seq ?_
  refine obP_elim H fun b64 eb64 H => W_cond eb64 (bP_imp H (fun H => ?_) (fun H => ?_))
  · refine W_skip ?_
    refine kont_seq ?_
    refine W_seq ?_
    refine W_block ?_
    refine W_seq ?_
    refine W_plain ?_
    refine VO_1 (s_fa tf28_2 rfl) H fun v59_65 H => ?_
    refine VO_1 (s_load1 ag26) H fun v60_66 H => ?_
    refine VO_5 s_move ?_
    refine VO_1 (s_iaS sl26 el26 sz37) H fun v62_67 H => ?_
    refine VO_1 (s_loadN ag37 sz37) H fun v63_68 H => ?_
    refine VO_2 (s_al zc37) H fun v7_69 h70 H => ?_
    refine VO_3 (s_store sz37) H fun h71 H => ?_
    refine VO_nil ?_
    refine kont_seq ?_
    refine W_seq ?_
    refine W_plain ?_
    refine VO_1 (s_loadN ag67 sz67) H fun v65_72 H => ?_
    refine VO_1 (s_loadN ag28 sz28) H fun v66_73 H => ?_
    refine VO_1 (s_fa tf37_1 rfl) H fun v67_74 H => ?_
    refine VO_1 (s_load1 ag34) H fun v68_75 H => ?_
    refine VO_4 rfl H fun v69_76 h77 H => ?_
    refine VO_5 s_move ?_
    refine VO_1 s_ext H fun v70_78 H => ?_
    refine VO_1 s_ext H fun v71_79 H => ?_
    refine VO_5 s_assign ?_
    refine VO_5 s_assign ?_
    refine VO_nil ?_
    refine kont_seq ?_
    refine W_seq ?_
    refine W_seq ?_
    refine W_plain ?_
    refine VO_5 s_move ?_
    refine VO_5 s_move ?_
    refine obP_elim H fun w80 ew80 H => ?_
    refine VO_1g rfl ew80 (s_fa tf67_0 rfl) H fun v74_81 H => ?_
    refine VO_1g rfl ew80 (s_load1 ag64) H fun v75_82 H => ?_
    refine VO_1g rfl ew80 (s_fa tf37_0 rfl) H fun v76_83 H => ?_
    refine VO_1g rfl ew80 (s_load1 ag3) H fun v77_84 H => ?_
    refine VO_1g rfl ew80 (s_iaS sl64 el64 sz4) H fun v78_85 H => ?_
    refine VO_1g rfl ew80 (s_load1 ag4) H fun v79_86 H => ?_
    refine VO_1g rfl ew80 s_not H fun v80_87 H => ?_
    refine VO_1 s_pk H fun v81_88 H => ?_
    refine VO_nil ?_
    refine kont_seq ?_
    refine obP_elim H fun b89 eb89 H => W_cond eb89 (bP_imp H (fun H => ?_) (fun H => ?_))
    · refine W_plain ?_
      refine VO_1 (s_fa tf67_0 rfl) H fun v82_90 H => ?_
      refine VO_1 (s_load1 ag64) H fun v83_91 H => ?_
      refine VO_1 (s_fa tf37_0 rfl) H fun v84_92 H => ?_
      refine VO_1 (s_load1 ag3) H fun v85_93 H => ?_
      refine VO_1 (s_iaS sl64 el64 sz4) H fun v86_94 H => ?_
      refine VO_3 (s_store sz4) H fun h95 H => ?_
      refine VO_5 s_assign ?_
      refine VO_nil ?_
      exact kont_seq (H _ rfl rfl rfl rfl rfl rfl rfl)
    · refine W_skip ?_
      exact kont_seq (H _ rfl rfl rfl rfl rfl rfl rfl)
  · refine W_exit ?_
    refine kont_xs rfl ?_
    refine kont_xl rfl ?_
    refine kont_block ?_
    refine kont_block ?_
    exact kont_loop (H _ rfl rfl rfl rfl)

theorem R33_4 {v1 v2 v3 v5 v6 v7 v8 : Value} {h : DH} {Z : Value → DH → Prop} (H : A33_5 v1 v2 v3 v5 v6 v7 v8 (Value.int .i64 0) h Z) : A33_4 v1 v2 v3 v5 v6 v7 v8 h Z := by
  intro a e1 e2 e3 e5 e6 e7 e8
  subst e1 e2 e3 e5 e6 e7 e8
  refine W_seq ?_
  refine W_seq ?_
  refine W_plain ?_
  refine VO_5 s_assign ?_
  refine VO_nil ?_
  refine kont_seq ?_
  refine W_block ?_
  exact H _ rfl rfl rfl rfl rfl rfl rfl rfl

theorem R33_5 {v1 v2 v3 v5 v6 v7 v8 v10 : Value} {h : DH} {Z : Value → DH → Prop} (H : obP (lenS v8) fun v89_96 => obP (ibin .lss v10 v89_96) fun v90_97 => obP (asB v90_97) fun b98 => bP b98 (obP (iaS 1 v8 v10) fun v95_99 => obP (ld1 h v95_99) fun v96_100 => obP (gotB v96_100 true) fun w101 => g1 w101 (fa 1 v3) fun v98_102 => g1 w101 (ld1 h v98_102) fun v99_103 => g1 w101 (fa 0 v7) fun v100_104 => g1 w101 (ld1 h v100_104) fun v101_105 => g1 w101 (iaS 1 v99_103 v101_105) fun v102_106 => g1 w101 (ld1 h v102_106) fun v103_107 => g1 w101 (iaS 1 v103_107 (sel w101 v10 undef)) fun v105_108 => g1 w101 (ld1 h v105_108) fun v106_109 => g1 w101 (bnot v106_109) fun v107_110 => obP (pk v96_100 v107_110 (Value.bool false)) fun v108_111 => obP (asB v108_111) fun b112 => bP b112 (obP (fa 1 v3) fun v109_113 => obP (ld1 h v109_113) fun v110_114 => obP (fa 0 v7) fun v111_115 => obP (ld1 h v111_115) fun v112_116 => obP (iaS 1 v110_114 v112_116) fun v113_117 => obP (ld1 h v113_117) fun v114_118 => obP (iaS 1 v114_118 v10) fun v116_119 => obP (st 1 h v116_119 (Value.bool true)) fun h120 => obP (ibin .add v10 (Value.int .i64 1)) fun v92_121 => A33_5 v1 v2 v3 (Value.bool true) v6 v7 v8 v92_121 h120 Z) (obP (ibin .add v10 (Value.int .i64 1)) fun v92_122 => A33_5 v1 v2 v3 v5 v6 v7 v8 v92_122 h Z)) (A33_6 v1 v2 v3 v5 v6 v7 (Value.int .i64 0) h Z)) : A33_5 v1 v2 v3 v5 v6 v7 v8 v10 h Z := by
  intro a e1 e2 e3 e5 e6 e7 e8 e10
  subst e1 e2 e3 e5 e6 e7 e8 e10
  refine W_loop ?_
  refine W_seq ?_
  refine W_seq ?_
  refine W_plain ?_
  refine VO_5 s_move ?_
  refine VO_5 s_move ?_
  refine VO_1 (s_lenS ud64) H fun v89_96 H => ?_
  refine VO_1 s_ibin H fun v90_97 H => ?_
  refine VO_nil ?_
  refine kont_seq ?_
  refine obP_elim H fun b98 eb98 H => W_cond eb98 (bP_imp H (fun H => ?_) (fun H => ?_))
  · refine W_skip ?_
    refine kont_seq ?_
    refine W_seq ?_
    refine W_block ?_
    refine W_seq ?_
    refine W_plain ?_
    refine VO_5 s_move ?_
    refine VO_5 s_move ?_
    refine VO_1 (s_iaS sl64 el64 sz4) H fun v95_99 H => ?_
    refine VO_1 (s_load1 ag4) H fun v96_100 H => ?_
    refine VO_5 s_move ?_
    refine obP_elim H fun w101 ew101 H => ?_
    refine VO_1g rfl ew101 (s_fa tf67_1 rfl) H fun v98_102 H => ?_
    refine VO_1g rfl ew101 (s_load1 ag65) H fun v99_103 H => ?_
    refine VO_1g rfl ew101 (s_fa tf37_0 rfl) H fun v100_104 H => ?_
    refine VO_1g rfl ew101 (s_load1 ag3) H fun v101_105 H => ?_
    refine VO_1g rfl ew101 (s_iaS sl65 el65 sz64) H fun v102_106 H => ?_
    refine VO_1g rfl ew101 (s_load1 ag64) H fun v103_107 H => ?_
    refine VO_5m rfl ew101 s_move ?_
    refine VO_1g rfl ew101 (s_iaS sl64 el64 sz4) H fun v105_108 H => ?_
    refine VO_1g rfl ew101 (s_load1 ag4) H fun v106_109 H => ?_
    refine VO_1g rfl ew101 s_not H fun v107_110 H => ?_
    refine VO_1 s_pk H fun v108_111 H => ?_
    refine VO_nil ?_
    refine kont_seq ?_
    refine obP_elim H fun b112 eb112 H => W_cond eb112 (bP_imp H (fun H => ?_) (fun H => ?_))
    · refine W_plain ?_
      refine VO_1 (s_fa tf67_1 rfl) H fun v109_113 H => ?_
      refine VO_1 (s_load1 ag65) H fun v110_114 H => ?_
      refine VO_1 (s_fa tf37_0 rfl) H fun v111_115 H => ?_
      refine VO_1 (s_load1 ag3) H fun v112_116 H => ?_
      refine VO_1 (s_iaS sl65 el65 sz64) H fun v113_117 H => ?_
      refine VO_1 (s_load1 ag64) H fun v114_118 H => ?_
      refine VO_5 s_move ?_
      refine VO_1 (s_iaS sl64 el64 sz4) H fun v116_119 H => ?_
      refine VO_3 (s_store sz4) H fun h120 H => ?_
      refine VO_5 s_assign ?_
      refine VO_nil ?_
      refine kont_block ?_
      refine kont_seq ?_
      refine W_plain ?_
      refine VO_5 s_move ?_
      refine VO_1 s_ibin H fun v92_121 H => ?_
      refine VO_5 s_assign ?_
      refine VO_nil ?_
      exact kont_loop (H _ rfl rfl rfl rfl rfl rfl rfl rfl)
    · refine W_skip ?_
      refine kont_block ?_
      refine kont_seq ?_
      refine W_plain ?_
      refine VO_5 s_move ?_
      refine VO_1 s_ibin H fun v92_122 H => ?_
      refine VO_5 s_assign ?_
      refine VO_nil ?_
      exact kont_loop (H _ rfl rfl rfl rfl rfl rfl rfl rfl)
  · refine W_exit ?_
    refine kont_xs rfl ?_
    refine kont_xl rfl ?_
    refine kont_block ?_
    refine kont_seq ?_
    refine W_seq ?_
    refine W_plain ?_
    refine VO_5 s_assign ?_
    refine VO_nil ?_
    refine kont_seq ?_
    refine W_block ?_
    exact H _ rfl rfl rfl rfl rfl rfl rfl

theorem R33_6 {v1 v2 v3 v5 v6 v7 v11 : Value} {h : DH} {Z : Value → DH → Prop} (H : obP (fa 1 v7) fun v118_123 => obP (ld1 h v118_123) fun v119_124 => obP (lenS v119_124) fun v120_125 => obP (ibin .lss v11 v120_125) fun v121_126 => obP (asB v121_126) fun b127 => bP b127 (obP (fa 1 v7) fun v124_128 => obP (ld1 h v124_128) fun v125_129 => obP (iaS 2 v125_129 v11) fun v127_130 => obP (fa 0 v127_130) fun v128_131 => obP (ld1 h v128_131) fun v129_132 => obP (bnot v129_132) fun v130_133 => obP (gotB v130_133 true) fun w134 => g1 w134 (ldN 3 h v3) fun v132_135 => g1 w134 (ldN 3 h v1) fun v133_136 => g1 w134 (ldN 3 h v7) fun v134_137 => g4 Try.prog w134 72 [v132_135, v133_136, v134_137, (sel w134 v11 undef)] h fun v136_138 h139 => obP (pk v130_133 v136_138 (Value.bool false)) fun v137_140 => obP (asB v137_140) fun b141 => bP b141 (obP (ibin .add v11 (Value.int .i64 1)) fun v123_142 => A33_6 v1 v2 v3 (Value.bool true) v6 v7 v123_142 h139 Z) (obP (ibin .add v11 (Value.int .i64 1)) fun v123_143 => A33_6 v1 v2 v3 v5 v6 v7 v123_143 h139 Z)) (obP (ibin .add v6 (Value.int .i64 1)) fun v58_144 => A33_3 v1 v2 v3 v5 v58_144 h Z)) : A33_6 v1 v2 v3 v5 v6 v7 v11 h Z := by
  intro a e1 e2 e3 e5 e6 e7 e11
  subst e1 e2 e3 e5 e6 e7 e11
  refine W_loop ?_
  refine W_seq ?_
  refine W_seq ?_
  refine W_plain ?_
  refine VO_5 s_move ?_
  refine VO_1 (s_fa tf37_1 rfl) H fun v118_123 H => ?_
  refine VO_1 (s_load1 ag34) H fun v119_124 H => ?_
  refine VO_1 (s_lenS ud34) H fun v120_125 H => ?_
  refine VO_1 s_ibin H fun v121_126 H => ?_
  refine VO_nil ?_
  refine kont_seq ?_
  refine obP_elim H fun b127 eb127 H => W_cond eb127 (bP_imp H (fun H => ?_) (fun H => ?_))
  · refine W_skip ?_
    refine kont_seq ?_
    refine W_seq ?_
    refine W_block ?_
    refine W_seq ?_
    refine W_plain ?_
    refine VO_1 (s_fa tf37_1 rfl) H fun v124_128 H => ?_
    refine VO_1 (s_load1 ag34) H fun v125_129 H => ?_
    refine VO_5 s_move ?_
    refine VO_1 (s_iaS sl34 el34 sz90) H fun v127_130 H => ?_
    refine VO_1 (s_fa tf90_0 rfl) H fun v128_131 H => ?_
    refine VO_1 (s_load1 ag4) H fun v129_132 H => ?_
    refine VO_1 s_not H fun v130_133 H => ?_
    refine VO_5 s_move ?_
    refine obP_elim H fun w134 ew134 H => ?_
    refine VO_1g rfl ew134 (s_loadN ag67 sz67) H fun v132_135 H => ?_
    refine VO_1g rfl ew134 (s_loadN ag28 sz28) H fun v133_136 H => ?_
    refine VO_1g rfl ew134 (s_loadN ag37 sz37) H fun v134_137 H => ?_
    refine VO_5m rfl ew134 s_move ?_
    refine VO_4g rfl ew134 rfl H fun v136_138 h139 H => ?_
    refine VO_1 s_pk H fun v137_140 H => ?_
    refine VO_nil ?_
    refine kont_seq ?_
    refine obP_elim H fun b141 eb141 H => W_cond eb141 (bP_imp H (fun H => ?_) (fun H => ?_))
    · refine W_plain ?_
      refine VO_5 s_assign ?_
      refine VO_nil ?_
      refine kont_block ?_
      refine kont_seq ?_
      refine W_plain ?_
      refine VO_5 s_move ?_
      refine VO_1 s_ibin H fun v123_142 H => ?_
      refine VO_5 s_assign ?_
      refine VO_nil ?_
      exact kont_loop (H _ rfl rfl rfl rfl rfl rfl rfl)
    · refine W_skip ?_
      refine kont_block ?_
      refine kont_seq ?_
      refine W_plain ?_
      refine VO_5 s_move ?_
      refine VO_1 s_ibin H fun v123_143 H => ?_
      refine VO_5 s_assign ?_
      refine VO_nil ?_
      exact kont_loop (H _ rfl rfl rfl rfl rfl rfl rfl)
  · refine W_exit ?_
    refine kont_xs rfl ?_
    refine kont_xl rfl ?_
    refine kont_block ?_
    refine kont_block ?_
    refine kont_seq ?_
    refine W_plain ?_
    refine VO_5 s_move ?_
    refine VO_1 s_ibin H fun v58_144 H => ?_
    refine VO_5 s_assign ?_
    refine VO_nil ?_
    exact kont_loop (H _ rfl rfl rfl rfl rfl)

end Go.Det
end
/- PRINTED BY gen.py: the conditions of functions. -/
set_option linter.unusedVariables false
set_option linter.unusedSimpArgs false
set_option maxRecDepth 100000
noncomputable section
namespace Go.Det
open Go.Proofs
-- lemmata/lemmatalaw12.FirstAll
noncomputable def body9 : Code := Cd.bO Try.f9
theorem df9 : dfunc Try.prog 9 = some ⟨Try.f9, body9⟩ := by kernel_rfl
theorem dp9_11 : drawPairs (Cd.rO (Cd.sL (Cd.sL (Cd.sR (Cd.sR (Cd.bB (Cd.sL (Cd.sR (Cd.lB (Cd.bB (Cd.sR (Cd.sL (Cd.sR (Cd.sR (Cd.sR (Cd.sR body9)))))))))))))))) = some [(1, 3), (8, 10), (16, 18)] := by kernel_rfl
theorem dp9_16 : drawPairs (Cd.rO (Cd.sL (Cd.bB (Cd.sL (Cd.sR (Cd.lB (Cd.bB (Cd.sR (Cd.sR (Cd.sR (Cd.sR (Cd.bB (Cd.sL (Cd.sR (Cd.lB (Cd.bB (Cd.sR (Cd.sL (Cd.sR (Cd.sR (Cd.sR (Cd.sR body9)))))))))))))))))))))) = some [] := by kernel_rfl
theorem dp9_17 : drawPairs (Cd.rO (Cd.sL (Cd.sR (Cd.bB (Cd.sL (Cd.sR (Cd.lB (Cd.bB (Cd.sR (Cd.sR (Cd.sR (Cd.sR (Cd.bB (Cd.sL (Cd.sR (Cd.lB (Cd.bB (Cd.sR (Cd.sL (Cd.sR (Cd.sR (Cd.sR (Cd.sR body9))))))))))))))))))))))) = some [] := by kernel_rfl
def A9_1 (v5 v6 : Value) (h : DH) (Z : Value → DH → Prop) : Prop := ∀ a : DA, DA.val a 5 = v5 → DA.val a 6 = v6 → W Try.prog (Cd.bB (Cd.sR (Cd.sL (Cd.sR (Cd.sR (Cd.sR (Cd.sR body9))))))) a h (kont Try.prog [.block 0, .seq (Cd.sR (Cd.sR (Cd.sR (Cd.sR (Cd.sR body9)))))] (Fin Try.prog Try.f9 Z))
def A9_2 (v5 v6 v7 v8 v9 : Value) (h : DH) (Z : Value → DH → Prop) : Prop := ∀ a : DA, DA.val a 5 = v5 → DA.val a 6 = v6 → DA.val a 7 = v7 → DA.val a 8 = v8 → DA.val a 9 = v9 → W Try.prog (Cd.bB (Cd.sR (Cd.sR (Cd.sR (Cd.sR (Cd.bB (Cd.sL (Cd.sR (Cd.lB (Cd.bB (Cd.sR (Cd.sL (Cd.sR (Cd.sR (Cd.sR (Cd.sR body9)))))))))))))))) a h (kont Try.prog [.block 2, .block 1, .seq (Cd.sR (Cd.sR (Cd.lB (Cd.bB (Cd.sR (Cd.sL (Cd.sR (Cd.sR (Cd.sR (Cd.sR body9)))))))))), .loop (Cd.lB (Cd.bB (Cd.sR (Cd.sL (Cd.sR (Cd.sR (Cd.sR (Cd.sR body9)))))))), .block 0, .seq (Cd.sR (Cd.sR (Cd.sR (Cd.sR (Cd.sR body9)))))] (Fin Try.prog Try.f9 Z))
theorem R9 {v0 v1 : Value} {h : DH} {Z : Value → DH → Prop} (H : CP Try.prog 31 [] h fun v14_1 h2 => obP (bnot v14_1) fun v15_3 => obP (asB v15_3) fun b4 => bP b4 (Z (Value.bool false) h2) (obP (lenS v0) fun v17_5 => obP (ibin .gtr v17_5 (Value.int .i64 150)) fun v18_6 => obP (asB v18_6) fun b7 => bP b7 (Z (Value.bool true) h2) (CP Try.prog 15 [v0] h2 fun v20_8 h9 => CP Try.prog 16 [v20_8] h9 fun v21_10 h11 => obP (cvI .i64 v1) fun v23_12 => CP Try.prog 32 [v23_12] h11 fun v24_13 h14 => oh (bldSl 28 3 2 [(Value.slice none 0 0), (Value.slice none 0 0), (Value.slice none 0 0)] [((0, 3), v21_10), ((3, 3), v24_13)] h14) fun v25_15 h16 => A9_1 v25_15 (Value.int .i64 0) h16 Z))) : CP Try.prog 9 [v0, v1] h Z := by
  refine CP_of df9 ?_
  refine W_seq ?_
  refine W_plain ?_
  refine VO_5 s_assign ?_
  refine VO_nil ?_
  refine kont_seq ?_
  refine W_seq ?_
  refine W_seq ?_
  refine W_plain ?_
  refine VO_4 rfl H fun v14_1 h2 H => ?_
  refine VO_1 s_not H fun v15_3 H => ?_
  refine VO_nil ?_
  refine kont_seq ?_
  refine obP_elim H fun b4 eb4 H => W_cond eb4 (bP_imp H (fun H => ?_) (fun H => ?_))
  · refine W_seq ?_
    refine W_plain ?_
    refine VO_5 s_assign ?_
    refine VO_nil ?_
    refine kont_seq ?_
    refine W_ret ?_
    refine kont_xs rfl ?_
    exact ⟨rfl, obP_of (dres_mk (lm_cons rfl lm_nil)) H⟩
  · refine W_skip ?_
    refine kont_seq ?_
    refine W_seq ?_
    refine W_seq ?_
    refine W_plain ?_
    refine VO_5 s_move ?_
    refine VO_1 (s_lenS ud22) H fun v17_5 H => ?_
    refine VO_1 s_ibin H fun v18_6 H => ?_
    refine VO_nil ?_
    refine kont_seq ?_
    refine obP_elim H fun b7 eb7 H => W_cond eb7 (bP_imp H (fun H => ?_) (fun H => ?_))
    · refine W_seq ?_
      refine W_plain ?_
      refine VO_5 s_assign ?_
      refine VO_nil ?_
      refine kont_seq ?_
      refine W_ret ?_
      refine kont_xs rfl ?_
      exact ⟨rfl, obP_of (dres_mk (lm_cons rfl lm_nil)) H⟩
    · refine W_skip ?_
      refine kont_seq ?_
      refine W_seq ?_
      refine W_plain ?_
      refine VO_5 s_move ?_
      refine VO_4 rfl H fun v20_8 h9 H => ?_
      refine VO_4 rfl H fun v21_10 h11 H => ?_
      refine VO_5 s_move ?_
      refine VO_1 (s_cvI cv5_3) H fun v23_12 H => ?_
      refine VO_4 rfl H fun v24_13 h14 H => ?_
      refine VO_2 (s_bldSl el63 sz28 zr28 (fil_cons rfl (fil_cons rfl fil_nil)) (fil_top (fil_top rfl))) H fun v25_15 h16 H => ?_
      refine VO_5 s_assign ?_
      refine VO_nil ?_
      refine kont_seq ?_
      refine W_seq ?_
      refine W_seq ?_
      refine W_plain ?_
      refine VO_5 s_assign ?_
      refine VO_nil ?_
      refine kont_seq ?_
      refine W_block ?_
      exact H _ rfl rfl

theorem R9_1 {v5 v6 : Value} {h : DH} {Z : Value → DH → Prop} (H : obP (ibin .lss v6 (Value.int .i64 2)) fun v27_17 => obP (asB v27_17) fun b18 => bP b18 (obP (iaS 3 v5 v6) fun v32_19 => obP (ldN 3 h v32_19) fun v33_20 => oh (al 28 [(Value.slice none 0 0), (Value.slice none 0 0), (Value.slice none 0 0)] h) fun v7_21 h22 => obP (st 3 h22 v7_21 v33_20) fun h23 => obP (ldN 3 h23 v7_21) fun v34_24 => CP Try.prog 33 [v34_24] h23 fun v35_25 h26 => oh (al 67 [(Value.slice none 0 0), (Value.slice none 0 0), (Value.slice none 0 0)] h26) fun v8_27 h28 => obP (st 3 h28 v8_27 v35_25) fun h29 => obP (ldN 3 h29 v7_21) fun v36_30 => CP Try.prog 35 [v36_30] (reset h29) fun v37_31 h32 => obP (fa 0 v8_27) fun v38_33 => obP (ld1 (lowered h32 h29.low) v38_33) fun v39_34 => CP Try.prog 34 [v37_31, v39_34] (reset (lowered h32 h29.low)) fun v40_35 h36 => obP (bnot v40_35) fun v41_37 => obP (gotB v41_37 false) fun w38 => g1 w38 (ldN 3 (lowered h36 (lowered h32 h29.low).low) v7_21) fun v43_39 => g4F Try.prog w38 37 [v43_39] (lowered h36 (lowered h32 h29.low).low) fun v44_40 h41 f42 => g1 w38 (fa 1 v8_27) fun v45_43 => g1 w38 (ld1 h41 v45_43) fun v46_44 => g4F Try.prog w38 36 [v44_40, v46_44] h41 fun v47_45 h46 f47 => g1 w38 (bnot v47_45) fun v48_48 => obP (pk v41_37 (Value.bool true) v48_48) fun v49_49 => obP (gotB v49_49 false) fun w50 => g1 w50 (ldN 3 h46 v7_21) fun v51_51 => g4F Try.prog w50 38 [v51_51] h46 fun v52_52 h53 f54 => g1 w50 (fa 2 v8_27) fun v53_55 => g1 w50 (ld1 h53 v53_55) fun v54_56 => g4F Try.prog w50 36 [v52_52, v54_56] h53 fun v55_57 h58 f59 => g1 w50 (bnot v55_57) fun v56_60 => obP (pk v49_49 (Value.bool true) v56_60) fun v57_61 => (either (callFoot h29 h32) ⟨some (blockOf v38_33), .none⟩ = true ∧ either f42 (gF w38 ⟨some (blockOf v45_43), .none⟩) = true ∧ either f54 (gF w50 ⟨some (blockOf v53_55), .none⟩) = true) ∧ (obP (asB v57_61) fun b62 => bP b62 (Z (Value.bool false) h58) (A9_2 v5 v6 v7_21 v8_27 (Value.int .i64 0) h58 Z))) (Z (Value.bool true) h)) : A9_1 v5 v6 h Z := by
  intro a e5 e6
  subst e5 e6
  refine W_loop ?_
  refine W_seq ?_
  refine W_seq ?_
  refine W_plain ?_
  refine VO_5 s_move ?_
  refine VO_1 s_ibin H fun v27_17 H => ?_
  refine VO_nil ?_
  refine kont_seq ?_
  refine obP_elim H fun b18 eb18 H => W_cond eb18 (bP_imp H (fun H => ?_) (fun H => ?_))
  · refine W_skip ?_
    refine kont_seq ?_
    refine W_seq ?_
    refine W_block ?_
    refine W_seq ?_
    refine W_plain ?_
    refine VO_5 s_move ?_
    refine VO_5 s_move ?_
    refine VO_1 (s_iaS sl63 el63 sz28) H fun v32_19 H => ?_
    refine VO_1 (s_loadN ag28 sz28) H fun v33_20 H => ?_
    refine VO_2 (s_al zc28) H fun v7_21 h22 H => ?_
    refine VO_3 (s_store sz28) H fun h23 H => ?_
    refine VO_nil ?_
    refine kont_seq ?_
    refine W_seq ?_
    refine W_plain ?_
    refine VO_1 (s_loadN ag28 sz28) H fun v34_24 H => ?_
    refine VO_4 rfl H fun v35_25 h26 H => ?_
    refine VO_2 (s_al zc67) H fun v8_27 h28 H => ?_
    refine VO_3 (s_store sz67) H fun h29 H => ?_
    refine VO_nil ?_
    refine kont_seq ?_
    refine W_seq ?_
    refine W_seq ?_
    refine W_drawF dp9_11 ?_
    refine VF_1 rfl (s_loadN ag28 sz28) H fun v36_30 H => ?_
    refine VF_4 rfl rfl H fun v37_31 h32 H => ?_
    refine VF_1 rfl (s_fa tf67_0 rfl) H fun v38_33 H => ?_
    refine VF_1 rfl (s_load1 ag64) H fun v39_34 H => ?_
    refine VF_4 rfl rfl H fun v40_35 h36 H => ?_
    refine VF_1 rfl s_not H fun v41_37 H => ?_
    refine VF_5 rfl s_move ?_
    refine obP_elim H fun w38 ew38 H => ?_
    refine VF_1g rfl rfl ew38 (s_loadN ag28 sz28) H fun v43_39 H => ?_
    refine VF_4g rfl rfl ew38 rfl H fun v44_40 h41 f42 H => ?_
    refine VF_1g rfl rfl ew38 (s_fa tf67_1 rfl) H fun v45_43 H => ?_
    refine VF_1g rfl rfl ew38 (s_load1 ag65) H fun v46_44 H => ?_
    refine VF_4g rfl rfl ew38 rfl H fun v47_45 h46 f47 H => ?_
    refine VF_1g rfl rfl ew38 s_not H fun v48_48 H => ?_
    refine VF_1 rfl s_pk H fun v49_49 H => ?_
    refine VF_5 rfl s_move ?_
    refine obP_elim H fun w50 ew50 H => ?_
    refine VF_1g rfl rfl ew50 (s_loadN ag28 sz28) H fun v51_51 H => ?_
    refine VF_4g rfl rfl ew50 rfl H fun v52_52 h53 f54 H => ?_
    refine VF_1g rfl rfl ew50 (s_fa tf67_2 rfl) H fun v53_55 H => ?_
    refine VF_1g rfl rfl ew50 (s_load1 ag65) H fun v54_56 H => ?_
    refine VF_4g rfl rfl ew50 rfl H fun v55_57 h58 f59 H => ?_
    refine VF_1g rfl rfl ew50 s_not H fun v56_60 H => ?_
    refine VF_1 rfl s_pk H fun v57_61 H => ?_
    refine VF_nil ?_
    refine ⟨eA_cons H.1.1 (eA_cons H.1.2.1 (eA_cons H.1.2.2 eA_nil)), ?_⟩
    replace H := H.2
    refine kont_seq ?_
    refine obP_elim H fun b62 eb62 H => W_cond eb62 (bP_imp H (fun H => ?_) (fun H => ?_))
    · refine W_seq ?_
      refine W_plain ?_
      refine VO_5 s_assign ?_
      refine VO_nil ?_
      refine kont_seq ?_
      refine W_ret ?_
      refine kont_xs rfl ?_
      refine kont_block ?_
      refine kont_xs rfl ?_
      refine kont_xl rfl ?_
      refine kont_block ?_
      refine kont_xs rfl ?_
      exact ⟨rfl, obP_of (dres_mk (lm_cons rfl lm_nil)) H⟩
    · refine W_skip ?_
      refine kont_seq ?_
      refine W_seq ?_
      refine W_plain ?_
      refine VO_5 s_assign ?_
      refine VO_nil ?_
      refine kont_seq ?_
      refine W_block ?_
      exact H _ rfl rfl rfl rfl rfl
  · refine W_exit ?_
    refine kont_xs rfl ?_
    refine kont_xl rfl ?_
    refine kont_block ?_
    refine kont_seq ?_
    refine W_seq ?_
    refine W_plain ?_
    refine VO_5 s_assign ?_
    refine VO_nil ?_
    refine kont_seq ?_
    refine W_ret ?_
    exact ⟨rfl, obP_of (dres_mk (lm_cons rfl lm_nil)) H⟩

theorem R9_2 {v5 v6 v7 v8 v9 : Value} {h : DH} {Z : Value → DH → Prop} (H : obP (fa 2 v7) fun v59_63 => obP (ld1 h v59_63) fun v60_64 => obP (lenS v60_64) fun v61_65 => obP (ibin .lss v9 v61_65) fun v62_66 => obP (asB v62_66) fun b67 => bP b67 (obP (ldN 3 h v7) fun v66_68 => obP (fa 2 v7) fun v67_69 => obP (ld1 h v67_69) fun v68_70 => obP (iaS 3 v68_70 v9) fun v70_71 => obP (fa 1 v70_71) fun v71_72 => obP (ld1 h v71_72) fun v72_73 => CP Try.prog 39 [v66_68, v72_73] h fun v73_74 h75 => obP (ext1 v73_74 0) fun v74_76 => obP (ext1 v73_74 1) fun v75_77 => obP (ldN 3 h75 v8) fun v77_78 => obP (ldN 3 h75 v7) fun v78_79 => obP (fa 2 v7) fun v79_80 => obP (ld1 h75 v79_80) fun v80_81 => obP (iaS 3 v80_81 v9) fun v82_82 => obP (fa 1 v82_82) fun v83_83 => obP (ld1 h75 v83_83) fun v84_84 => CP Try.prog 40 [v77_78, v78_79, v84_84] h75 fun v85_85 h86 => obP (ext1 v85_85 0) fun v86_87 => obP (ext1 v85_85 1) fun v87_88 => CP Try.prog 34 [v74_76, v86_87] h86 fun v90_89 h90 => obP (bnot v90_89) fun v91_91 => obP (gotB v91_91 false) fun w92 => g1 w92 (dbin Try.prog .neq 4 (.tmp 93) (.tmp 94) (sel w92 v75_77 undef) (sel w92 v87_88 undef)) fun v95_93 => obP (pk v91_91 (Value.bool true) v95_93) fun v96_94 => obP (asB v96_94) fun b95 => bP b95 (Z (Value.bool false) h90) (obP (ibin .add v9 (Value.int .i64 1)) fun v64_96 => A9_2 v5 v6 v7 v8 v64_96 h90 Z)) (obP (ibin .add v6 (Value.int .i64 1)) fun v29_97 => A9_1 v5 v29_97 h Z)) : A9_2 v5 v6 v7 v8 v9 h Z := by
  intro a e5 e6 e7 e8 e9
  subst e5 e6 e7 e8 e9
  refine W_loop ?_
  refine W_seq ?_
  refine W_seq ?_
  refine W_plain ?_
  refine VO_5 s_move ?_
  refine VO_1 (s_fa tf28_2 rfl) H fun v59_63 H => ?_
  refine VO_1 (s_load1 ag26) H fun v60_64 H => ?_
  refine VO_1 (s_lenS ud26) H fun v61_65 H => ?_
  refine VO_1 s_ibin H fun v62_66 H => ?_
  refine VO_nil ?_
  refine kont_seq ?_
  refine obP_elim H fun b67 eb67 H => W_cond eb67 (bP_imp H (fun H => ?_) (fun H => ?_))
  · refine W_skip ?_
    refine kont_seq ?_
    refine W_seq ?_
    refine W_block ?_
    refine W_seq ?_
    refine W_draw dp9_16 ?_
    refine VO_1 (s_loadN ag28 sz28) H fun v66_68 H => ?_
    refine VO_1 (s_fa tf28_2 rfl) H fun v67_69 H => ?_
    refine VO_1 (s_load1 ag26) H fun v68_70 H => ?_
    refine VO_5 s_move ?_
    refine VO_1 (s_iaS sl26 el26 sz37) H fun v70_71 H => ?_
    refine VO_1 (s_fa tf37_1 rfl) H fun v71_72 H => ?_
    refine VO_1 (s_load1 ag34) H fun v72_73 H => ?_
    refine VO_4 rfl H fun v73_74 h75 H => ?_
    refine VO_5 s_move ?_
    refine VO_1 s_ext H fun v74_76 H => ?_
    refine VO_1 s_ext H fun v75_77 H => ?_
    refine VO_5 s_assign ?_
    refine VO_5 s_assign ?_
    refine VO_nil ?_
    refine kont_seq ?_
    refine W_seq ?_
    refine W_draw dp9_17 ?_
    refine VO_1 (s_loadN ag67 sz67) H fun v77_78 H => ?_
    refine VO_1 (s_loadN ag28 sz28) H fun v78_79 H => ?_
    refine VO_1 (s_fa tf28_2 rfl) H fun v79_80 H => ?_
    refine VO_1 (s_load1 ag26) H fun v80_81 H => ?_
    refine VO_5 s_move ?_
    refine VO_1 (s_iaS sl26 el26 sz37) H fun v82_82 H => ?_
    refine VO_1 (s_fa tf37_1 rfl) H fun v83_83 H => ?_
    refine VO_1 (s_load1 ag34) H fun v84_84 H => ?_
    refine VO_4 rfl H fun v85_85 h86 H => ?_
    refine VO_5 s_move ?_
    refine VO_1 s_ext H fun v86_87 H => ?_
    refine VO_1 s_ext H fun v87_88 H => ?_
    refine VO_5 s_assign ?_
    refine VO_5 s_assign ?_
    refine VO_nil ?_
    refine kont_seq ?_
    refine W_seq ?_
    refine W_plain ?_
    refine VO_5 s_move ?_
    refine VO_5 s_move ?_
    refine VO_4 rfl H fun v90_89 h90 H => ?_
    refine VO_1 s_not H fun v91_91 H => ?_
    refine VO_5 s_move ?_
    refine obP_elim H fun w92 ew92 H => ?_
    refine VO_5m rfl ew92 s_move ?_
    refine VO_5m rfl ew92 s_move ?_
    refine VO_1g rfl ew92 s_gbin H fun v95_93 H => ?_
    refine VO_1 s_pk H fun v96_94 H => ?_
    refine VO_nil ?_
    refine kont_seq ?_
    refine obP_elim H fun b95 eb95 H => W_cond eb95 (bP_imp H (fun H => ?_) (fun H => ?_))
    · refine W_seq ?_
      refine W_plain ?_
      refine VO_5 s_assign ?_
      refine VO_nil ?_
      refine kont_seq ?_
      refine W_ret ?_
      refine kont_block ?_
      refine kont_xs rfl ?_
      refine kont_xl rfl ?_
      refine kont_block ?_
      refine kont_block ?_
      refine kont_xs rfl ?_
      refine kont_xl rfl ?_
      refine kont_block ?_
      refine kont_xs rfl ?_
      exact ⟨rfl, obP_of (dres_mk (lm_cons rfl lm_nil)) H⟩
    · refine W_skip ?_
      refine kont_block ?_
      refine kont_seq ?_
      refine W_plain ?_
      refine VO_5 s_move ?_
      refine VO_1 s_ibin H fun v64_96 H => ?_
      refine VO_5 s_assign ?_
      refine VO_nil ?_
      exact kont_loop (H _ rfl rfl rfl rfl rfl)
  · refine W_exit ?_
    refine kont_xs rfl ?_
    refine kont_xl rfl ?_
    refine kont_block ?_
    refine kont_block ?_
    refine kont_seq ?_
    refine W_plain ?_
    refine VO_5 s_move ?_
    refine VO_1 s_ibin H fun v29_97 H => ?_
    refine VO_5 s_assign ?_
    refine VO_nil ?_
    exact kont_loop (H _ rfl rfl)

-- lemmata/lemmataplay.tok
noncomputable def body71 : Code := Cd.bO Try.f71
theorem df71 : dfunc Try.prog 71 = some ⟨Try.f71, body71⟩ := by kernel_rfl
theorem R71 {v0 : Value} {h : DH} {Z : Value → DH → Prop} (H : oh (al 90 [(Value.bool false), (Value.int .i64 0)] h) fun v2_1 h2 => obP (bld [(Value.bool false), (Value.int .i64 0)] [((0, 1), (Value.bool true)), ((1, 1), v0)]) fun v4_3 => obP (st 2 h2 v2_1 v4_3) fun h4 => obP (ldN 2 h4 v2_1) fun r5 => Z r5 h4) : CP Try.prog 71 [v0] h Z := by
  refine CP_of df71 ?_
  refine W_seq ?_
  refine W_plain ?_
  refine VO_2 (s_al zc90) H fun v2_1 h2 H => ?_
  refine VO_nil ?_
  refine kont_seq ?_
  refine W_seq ?_
  refine W_plain ?_
  refine VO_5 s_move ?_
  refine VO_1 (s_bld zc90 ud90 hs90 (fil_cons tf90_0 (fil_cons tf90_1 fil_nil)) (fil_top (fil_top rfl))) H fun v4_3 H => ?_
  refine VO_3 (s_store sz90) H fun h4 H => ?_
  refine VO_nil ?_
  refine kont_seq ?_
  refine W_ret ?_
  refine obP_elim H fun r5 er5 H => ?_
  exact ⟨rfl, obP_of (dres_mk (lm_cons ((dload_N ag90 sz90).trans er5) lm_nil)) H⟩

-- lemmata/lemmataplay.Sums
noncomputable def body32 : Code := Cd.bO Try.f32
theorem df32 : dfunc Try.prog 32 = some ⟨Try.f32, body32⟩ := by kernel_rfl
theorem dp32_7 : drawPairs (Cd.rO (Cd.cT (Cd.sR (Cd.bB (Cd.sR (Cd.sL (Cd.sR (Cd.sR (Cd.sR (Cd.sR (Cd.sR body32))))))))))) = some [(1, 2), (1, 3), (1, 7), (1, 9), (1, 11), (1, 15), (1, 17), (1, 18)] := by kernel_rfl
theorem R32 {v0 : Value} {h : DH} {Z : Value → DH → Prop} (H : oh (al 28 [(Value.slice none 0 0), (Value.slice none 0 0), (Value.slice none 0 0)] h) fun v2_1 h2 => obP (bld [(Value.string ⟨#[]⟩), (Value.string ⟨#[]⟩), (Value.bool false)] [((0, 1), (Value.string ⟨#[110, 117, 109]⟩)), ((1, 1), (Value.string ⟨#[91, 48, 45, 57, 93, 43]⟩))]) fun v4_3 => obP (bld [(Value.string ⟨#[]⟩), (Value.string ⟨#[]⟩), (Value.bool false)] [((0, 1), (Value.string ⟨#[105, 100]⟩)), ((1, 1), (Value.string ⟨#[91, 97, 45, 122, 93, 43]⟩))]) fun v5_4 => obP (bld [(Value.string ⟨#[]⟩), (Value.string ⟨#[]⟩), (Value.bool false)] [((0, 1), (Value.string ⟨#[112, 108, 117, 115]⟩)), ((1, 1), (Value.string ⟨#[92, 43]⟩))]) fun v6_5 => obP (bld [(Value.string ⟨#[]⟩), (Value.string ⟨#[]⟩), (Value.bool false)] [((0, 1), (Value.string ⟨#[115, 116, 97, 114]⟩)), ((1, 1), (Value.string ⟨#[92, 42]⟩))]) fun v7_6 => obP (bld [(Value.string ⟨#[]⟩), (Value.string ⟨#[]⟩), (Value.bool false)] [((0, 1), (Value.string ⟨#[111, 112, 101, 110]⟩)), ((1, 1), (Value.string ⟨#[92, 40]⟩))]) fun v8_7 => obP (bld [(Value.string ⟨#[]⟩), (Value.string ⟨#[]⟩), (Value.bool false)] [((0, 1), (Value.string ⟨#[99, 108, 111, 115, 101]⟩)), ((1, 1), (Value.string ⟨#[92, 41]⟩))]) fun v9_8 => obP (bld [(Value.string ⟨#[]⟩), (Value.string ⟨#[]⟩), (Value.bool false)] [((0, 1), (Value.string ⟨#[98, 108, 97, 110, 107]⟩)), ((1, 1), (Value.string ⟨#[91, 32, 92, 45, 93, 43]⟩)), ((2, 1), (Value.bool true))]) fun v10_9 => obP (bld [(Value.string ⟨#[]⟩), (Value.string ⟨#[]⟩), (Value.bool false)] [((0, 1), (Value.string ⟨#[108, 101, 116]⟩)), ((1, 1), (Value.string ⟨#[61]⟩))]) fun v11_10 => oh (bldSl 99 3 8 [(Value.string ⟨#[]⟩), (Value.string ⟨#[]⟩), (Value.bool false)] [((0, 3), v4_3), ((3, 3), v5_4), ((6, 3), v6_5), ((9, 3), v7_6), ((12, 3), v8_7), ((15, 3), v9_8), ((18, 3), v10_9), ((21, 3), v11_10)] h2) fun v12_11 h12 => obP (bld [(Value.slice none 0 0), (Value.slice none 0 0), (Value.slice none 0 0)] [((0, 1), v12_11)]) fun v13_13 => oh (al 28 [(Value.slice none 0 0), (Value.slice none 0 0), (Value.slice none 0 0)] h12) fun v3_14 h15 => obP (st 3 h15 v3_14 v13_13) fun h16 => obP (fa 0 v3_14) fun v14_17 => obP (ld1 h16 v14_17) fun v15_18 => obP (iaS 3 v15_18 (Value.int .i64 6)) fun v16_19 => obP (fa 1 v16_19) fun v17_20 => obP (st 1 h16 v17_20 (Value.string ⟨#[32, 43]⟩)) fun h21 => oh (bldSl 9 1 2 [(Value.string ⟨#[]⟩)] [((0, 1), (Value.string ⟨#[118, 97, 108]⟩)), ((1, 1), (Value.string ⟨#[98, 97, 100]⟩))] h21) fun v18_22 h23 => obP (bld [(Value.string ⟨#[]⟩), (Value.slice none 0 0), (Value.slice none 0 0)] [((0, 1), (Value.string ⟨#[115]⟩)), ((2, 1), v18_22)]) fun v19_24 => oh (bldSl 9 1 1 [(Value.string ⟨#[]⟩)] [((0, 1), (Value.string ⟨#[101, 110, 118]⟩))] h23) fun v20_25 h26 => oh (bldSl 9 1 1 [(Value.string ⟨#[]⟩)] [((0, 1), (Value.string ⟨#[118, 97, 108]⟩))] h26) fun v21_27 h28 => obP (bld [(Value.string ⟨#[]⟩), (Value.slice none 0 0), (Value.slice none 0 0)] [((0, 1), (Value.string ⟨#[101]⟩)), ((1, 1), v20_25), ((2, 1), v21_27)]) fun v22_29 => oh (bldSl 9 1 2 [(Value.string ⟨#[]⟩)] [((0, 1), (Value.string ⟨#[101, 110, 118]⟩)), ((1, 1), (Value.string ⟨#[108, 101, 102, 116]⟩))] h28) fun v23_30 h31 => oh (bldSl 9 1 1 [(Value.string ⟨#[]⟩)] [((0, 1), (Value.string ⟨#[118, 97, 108]⟩))] h31) fun v24_32 h33 => obP (bld [(Value.string ⟨#[]⟩), (Value.slice none 0 0), (Value.slice none 0 0)] [((0, 1), (Value.string ⟨#[109, 111, 114, 101]⟩)), ((1, 1), v23_30), ((2, 1), v24_32)]) fun v25_34 => oh (bldSl 9 1 1 [(Value.string ⟨#[]⟩)] [((0, 1), (Value.string ⟨#[101, 110, 118]⟩))] h33) fun v26_35 h36 => oh (bldSl 9 1 2 [(Value.string ⟨#[]⟩)] [((0, 1), (Value.string ⟨#[118, 97, 108]⟩)), ((1, 1), (Value.string ⟨#[115, 105, 122, 101]⟩))] h36) fun v27_37 h38 => obP (bld [(Value.string ⟨#[]⟩), (Value.slice none 0 0), (Value.slice none 0 0)] [((0, 1), (Value.string ⟨#[102]⟩)), ((1, 1), v26_35), ((2, 1), v27_37)]) fun v28_39 => oh (bldSl 101 3 4 [(Value.string ⟨#[]⟩), (Value.slice none 0 0), (Value.slice none 0 0)] [((0, 3), v19_24), ((3, 3), v22_29), ((6, 3), v25_34), ((9, 3), v28_39)] h38) fun v29_40 h41 => obP (fa 1 v3_14) fun v30_42 => obP (st 1 h41 v30_42 v29_40) fun h43 => obP (bld [(Value.bool false), (Value.int .i64 0)] [((1, 1), (Value.int .i64 1))]) fun v31_44 => oh (bldSl 90 2 1 [(Value.bool false), (Value.int .i64 0)] [((0, 2), v31_44)] h43) fun v32_45 h46 => obP (bld [(Value.int .i64 0), (Value.int .i64 0), (Value.int .i64 0), (Value.string ⟨#[]⟩), (Value.slice none 0 0), (Value.int .i64 0), (Value.int .i64 0), (Value.slice none 0 0)] [((0, 1), (Value.int .i64 22))]) fun v33_47 => obP (bld [(Value.int .i64 0), (Value.int .i64 0), (Value.string ⟨#[]⟩), (Value.slice none 0 0)] [((0, 1), (Value.int .i64 3)), ((2, 1), (Value.string ⟨#[120]⟩))]) fun v34_48 => CP Try.prog 69 [v34_48] h46 fun v35_49 h50 => obP (bld [(Value.int .i64 0), (Value.int .i64 0), (Value.string ⟨#[]⟩), (Value.slice none 0 0)] [((0, 1), (Value.int .i64 1)), ((1, 1), (Value.int .i64 5))]) fun v36_51 => CP Try.prog 69 [v36_51] h50 fun v37_52 h53 => oh (bldSl 134 8 3 [(Value.int .i64 0), (Value.int .i64 0), (Value.int .i64 0), (Value.string ⟨#[]⟩), (Value.slice none 0 0), (Value.int .i64 0), (Value.int .i64 0), (Value.slice none 0 0)] [((0, 8), v33_47), ((8, 8), v35_49), ((16, 8), v37_52)] h53) fun v38_54 h55 => obP (bld [(Value.int .i64 0), (Value.int .i64 0), (Value.int .i64 0), (Value.string ⟨#[]⟩), (Value.slice none 0 0), (Value.int .i64 0), (Value.int .i64 0), (Value.slice none 0 0)] [((0, 1), (Value.int .i64 16)), ((7, 1), v38_54)]) fun v39_56 => obP (bld [(Value.int .i64 0), (Value.int .i64 0), (Value.int .i64 0), (Value.int .i64 0), (Value.int .i64 0), (Value.string ⟨#[]⟩), (Value.slice none 0 0), (Value.int .i64 0), (Value.int .i64 0), (Value.slice none 0 0)] [((0, 1), (Value.int .i64 1)), ((1, 1), (Value.int .i64 0)), ((2, 8), v39_56)]) fun v40_57 => CP Try.prog 70 [(Value.int .i64 1), (Value.int .i64 1)] h55 fun v41_58 h59 => obP (bld [(Value.int .i64 0), (Value.int .i64 0), (Value.int .i64 0), (Value.int .i64 0), (Value.int .i64 0), (Value.string ⟨#[]⟩), (Value.slice none 0 0), (Value.int .i64 0), (Value.int .i64 0), (Value.slice none 0 0)] [((0, 1), (Value.int .i64 0)), ((1, 1), (Value.int .i64 0)), ((2, 8), v41_58)]) fun v42_60 => CP Try.prog 70 [(Value.int .i64 1), (Value.int .i64 1)] h59 fun v43_61 h62 => obP (bld [(Value.int .i64 0), (Value.int .i64 0), (Value.string ⟨#[]⟩), (Value.slice none 0 0)] [((0, 1), (Value.int .i64 1)), ((1, 1), (Value.int .i64 10))]) fun v44_63 => CP Try.prog 69 [v44_63] h62 fun v45_64 h65 => oh (bldSl 134 8 2 [(Value.int .i64 0), (Value.int .i64 0), (Value.int .i64 0), (Value.string ⟨#[]⟩), (Value.slice none 0 0), (Value.int .i64 0), (Value.int .i64 0), (Value.slice none 0 0)] [((0, 8), v43_61), ((8, 8), v45_64)] h65) fun v46_66 h67 => obP (bld [(Value.int .i64 0), (Value.int .i64 0), (Value.int .i64 0), (Value.string ⟨#[]⟩), (Value.slice none 0 0), (Value.int .i64 0), (Value.int .i64 0), (Value.slice none 0 0)] [((0, 1), (Value.int .i64 8)), ((7, 1), v46_66)]) fun v47_68 => obP (bld [(Value.int .i64 0), (Value.int .i64 0), (Value.int .i64 0), (Value.int .i64 0), (Value.int .i64 0), (Value.string ⟨#[]⟩), (Value.slice none 0 0), (Value.int .i64 0), (Value.int .i64 0), (Value.slice none 0 0)] [((0, 1), (Value.int .i64 0)), ((1, 1), (Value.int .i64 1)), ((2, 8), v47_68)]) fun v48_69 => oh (bldSl 137 10 3 [(Value.int .i64 0), (Value.int .i64 0), (Value.int .i64 0), (Value.int .i64 0), (Value.int .i64 0), (Value.string ⟨#[]⟩), (Value.slice none 0 0), (Value.int .i64 0), (Value.int .i64 0), (Value.slice none 0 0)] [((0, 10), v40_57), ((10, 10), v42_60), ((20, 10), v48_69)] h67) fun v49_70 h71 => obP (bld [(Value.int .i64 0), (Value.slice none 0 0), (Value.slice none 0 0)] [((0, 1), (Value.int .i64 0)), ((1, 1), v32_45), ((2, 1), v49_70)]) fun v50_72 => obP (bld [(Value.bool false), (Value.int .i64 0)] [((1, 1), (Value.int .i64 3))]) fun v51_73 => obP (bld [(Value.bool false), (Value.int .i64 0)] [((1, 1), (Value.int .i64 2))]) fun v52_74 => oh (bldSl 90 2 2 [(Value.bool false), (Value.int .i64 0)] [((0, 2), v51_73), ((2, 2), v52_74)] h71) fun v53_75 h76 => CP Try.prog 70 [(Value.int .i64 0), (Value.int .i64 0)] h76 fun v54_77 h78 => obP (bld [(Value.int .i64 0), (Value.int .i64 0), (Value.int .i64 0), (Value.int .i64 0), (Value.int .i64 0), (Value.string ⟨#[]⟩), (Value.slice none 0 0), (Value.int .i64 0), (Value.int .i64 0), (Value.slice none 0 0)] [((0, 1), (Value.int .i64 1)), ((1, 1), (Value.int .i64 0)), ((2, 8), v54_77)]) fun v55_79 => CP Try.prog 70 [(Value.int .i64 0), (Value.int .i64 0)] h78 fun v56_80 h81 => obP (bld [(Value.int .i64 0), (Value.int .i64 0), (Value.int .i64 0), (Value.int .i64 0), (Value.int .i64 0), (Value.string ⟨#[]⟩), (Value.slice none 0 0), (Value.int .i64 0), (Value.int .i64 0), (Value.slice none 0 0)] [((0, 1), (Value.int .i64 2)), ((1, 1), (Value.int .i64 0)), ((2, 8), v56_80)]) fun v57_82 => CP Try.prog 70 [(Value.int .i64 1), (Value.int .i64 1)] h81 fun v58_83 h84 => obP (bld [(Value.int .i64 0), (Value.int .i64 0), (Value.int .i64 0), (Value.int .i64 0), (Value.int .i64 0), (Value.string ⟨#[]⟩), (Value.slice none 0 0), (Value.int .i64 0), (Value.int .i64 0), (Value.slice none 0 0)] [((0, 1), (Value.int .i64 2)), ((1, 1), (Value.int .i64 1)), ((2, 8), v58_83)]) fun v59_85 => CP Try.prog 70 [(Value.int .i64 2), (Value.int .i64 2)] h84 fun v60_86 h87 => obP (bld [(Value.int .i64 0), (Value.int .i64 0), (Value.int .i64 0), (Value.int .i64 0), (Value.int .i64 0), (Value.string ⟨#[]⟩), (Value.slice none 0 0), (Value.int .i64 0), (Value.int .i64 0), (Value.slice none 0 0)] [((0, 1), (Value.int .i64 0)), ((1, 1), (Value.int .i64 1)), ((2, 8), v60_86)]) fun v61_88 => oh (bldSl 137 10 4 [(Value.int .i64 0), (Value.int .i64 0), (Value.int .i64 0), (Value.int .i64 0), (Value.int .i64 0), (Value.string ⟨#[]⟩), (Value.slice none 0 0), (Value.int .i64 0), (Value.int .i64 0), (Value.slice none 0 0)] [((0, 10), v55_79), ((10, 10), v57_82), ((20, 10), v59_85), ((30, 10), v61_88)] h87) fun v62_89 h90 => obP (bld [(Value.int .i64 0), (Value.slice none 0 0), (Value.slice none 0 0)] [((0, 1), (Value.int .i64 1)), ((1, 1), v53_75), ((2, 1), v62_89)]) fun v63_91 => CP Try.prog 71 [(Value.int .i64 2)] h90 fun v64_92 h93 => obP (bld [(Value.bool false), (Value.int .i64 0)] [((1, 1), (Value.int .i64 3))]) fun v65_94 => obP (bld [(Value.bool false), (Value.int .i64 0)] [((1, 1), (Value.int .i64 2))]) fun v66_95 => oh (bldSl 90 2 3 [(Value.bool false), (Value.int .i64 0)] [((0, 2), v64_92), ((2, 2), v65_94), ((4, 2), v66_95)] h93) fun v67_96 h97 => CP Try.prog 70 [(Value.int .i64 0), (Value.int .i64 0)] h97 fun v68_98 h99 => obP (bld [(Value.int .i64 0), (Value.int .i64 0), (Value.int .i64 0), (Value.int .i64 0), (Value.int .i64 0), (Value.string ⟨#[]⟩), (Value.slice none 0 0), (Value.int .i64 0), (Value.int .i64 0), (Value.slice none 0 0)] [((0, 1), (Value.int .i64 2)), ((1, 1), (Value.int .i64 0)), ((2, 8), v68_98)]) fun v69_100 => CP Try.prog 70 [(Value.int .i64 0), (Value.int .i64 0)] h99 fun v70_101 h102 => obP (bld [(Value.int .i64 0), (Value.int .i64 0), (Value.int .i64 0), (Value.int .i64 0), (Value.int .i64 0), (Value.string ⟨#[]⟩), (Value.slice none 0 0), (Value.int .i64 0), (Value.int .i64 0), (Value.slice none 0 0)] [((0, 1), (Value.int .i64 3)), ((1, 1), (Value.int .i64 0)), ((2, 8), v70_101)]) fun v71_103 => CP Try.prog 70 [(Value.int .i64 0), (Value.int .i64 1)] h102 fun v72_104 h105 => CP Try.prog 70 [(Value.int .i64 2), (Value.int .i64 1)] h105 fun v73_106 h107 => oh (bldSl 134 8 2 [(Value.int .i64 0), (Value.int .i64 0), (Value.int .i64 0), (Value.string ⟨#[]⟩), (Value.slice none 0 0), (Value.int .i64 0), (Value.int .i64 0), (Value.slice none 0 0)] [((0, 8), v72_104), ((8, 8), v73_106)] h107) fun v74_108 h109 => obP (bld [(Value.int .i64 0), (Value.int .i64 0), (Value.int .i64 0), (Value.string ⟨#[]⟩), (Value.slice none 0 0), (Value.int .i64 0), (Value.int .i64 0), (Value.slice none 0 0)] [((0, 1), (Value.int .i64 4)), ((7, 1), v74_108)]) fun v75_110 => obP (bld [(Value.int .i64 0), (Value.int .i64 0), (Value.int .i64 0), (Value.int .i64 0), (Value.int .i64 0), (Value.string ⟨#[]⟩), (Value.slice none 0 0), (Value.int .i64 0), (Value.int .i64 0), (Value.slice none 0 0)] [((0, 1), (Value.int .i64 3)), ((1, 1), (Value.int .i64 1)), ((2, 8), v75_110)]) fun v76_111 => CP Try.prog 70 [(Value.int .i64 3), (Value.int .i64 2)] h109 fun v77_112 h113 => obP (bld [(Value.int .i64 0), (Value.int .i64 0), (Value.int .i64 0), (Value.int .i64 0), (Value.int .i64 0), (Value.string ⟨#[]⟩), (Value.slice none 0 0), (Value.int .i64 0), (Value.int .i64 0), (Value.slice none 0 0)] [((0, 1), (Value.int .i64 0)), ((1, 1), (Value.int .i64 2)), ((2, 8), v77_112)]) fun v78_114 => oh (bldSl 137 10 4 [(Value.int .i64 0), (Value.int .i64 0), (Value.int .i64 0), (Value.int .i64 0), (Value.int .i64 0), (Value.string ⟨#[]⟩), (Value.slice none 0 0), (Value.int .i64 0), (Value.int .i64 0), (Value.slice none 0 0)] [((0, 10), v69_100), ((10, 10), v71_103), ((20, 10), v76_111), ((30, 10), v78_114)] h113) fun v79_115 h116 => obP (bld [(Value.int .i64 0), (Value.slice none 0 0), (Value.slice none 0 0)] [((0, 1), (Value.int .i64 2)), ((1, 1), v67_96), ((2, 1), v79_115)]) fun v80_117 => CP Try.prog 70 [(Value.int .i64 0), (Value.int .i64 1)] h116 fun v81_118 h119 => obP (bld [(Value.int .i64 0), (Value.int .i64 0), (Value.int .i64 0), (Value.int .i64 0), (Value.int .i64 0), (Value.string ⟨#[]⟩), (Value.slice none 0 0), (Value.int .i64 0), (Value.int .i64 0), (Value.slice none 0 0)] [((0, 1), (Value.int .i64 0)), ((1, 1), (Value.int .i64 2)), ((2, 8), v81_118)]) fun v82_120 => oh (bldSl 137 10 1 [(Value.int .i64 0), (Value.int .i64 0), (Value.int .i64 0), (Value.int .i64 0), (Value.int .i64 0), (Value.string ⟨#[]⟩), (Value.slice none 0 0), (Value.int .i64 0), (Value.int .i64 0), (Value.slice none 0 0)] [((0, 10), v82_120)] h119) fun v83_121 h122 => obP (bld [(Value.int .i64 0), (Value.slice none 0 0), (Value.slice none 0 0)] [((0, 1), (Value.int .i64 2)), ((2, 1), v83_121)]) fun v84_123 => CP Try.prog 71 [(Value.int .i64 0)] h122 fun v85_124 h125 => oh (bldSl 90 2 1 [(Value.bool false), (Value.int .i64 0)] [((0, 2), v85_124)] h125) fun v86_126 h127 => obP (bld [(Value.int .i64 0), (Value.int .i64 0), (Value.int .i64 0), (Value.string ⟨#[]⟩), (Value.slice none 0 0), (Value.int .i64 0), (Value.int .i64 0), (Value.slice none 0 0)] [((0, 1), (Value.int .i64 3)), ((5, 1), (Value.int .i64 1))]) fun v87_128 => obP (bld [(Value.int .i64 0), (Value.int .i64 0), (Value.int .i64 0), (Value.int .i64 0), (Value.int .i64 0), (Value.string ⟨#[]⟩), (Value.slice none 0 0), (Value.int .i64 0), (Value.int .i64 0), (Value.slice none 0 0)] [((0, 1), (Value.int .i64 0)), ((1, 1), (Value.int .i64 1)), ((2, 8), v87_128)]) fun v88_129 => obP (bld [(Value.int .i64 0), (Value.int .i64 0), (Value.string ⟨#[]⟩), (Value.slice none 0 0)] [((0, 1), (Value.int .i64 1)), ((1, 1), (Value.int .i64 1))]) fun v89_130 => CP Try.prog 69 [v89_130] h127 fun v90_131 h132 => obP (bld [(Value.int .i64 0), (Value.int .i64 0), (Value.int .i64 0), (Value.int .i64 0), (Value.int .i64 0), (Value.string ⟨#[]⟩), (Value.slice none 0 0), (Value.int .i64 0), (Value.int .i64 0), (Value.slice none 0 0)] [((0, 1), (Value.int .i64 0)), ((1, 1), (Value.int .i64 2)), ((2, 8), v90_131)]) fun v91_133 => oh (bldSl 137 10 2 [(Value.int .i64 0), (Value.int .i64 0), (Value.int .i64 0), (Value.int .i64 0), (Value.int .i64 0), (Value.string ⟨#[]⟩), (Value.slice none 0 0), (Value.int .i64 0), (Value.int .i64 0), (Value.slice none 0 0)] [((0, 10), v88_129), ((10, 10), v91_133)] h132) fun v92_134 h135 => obP (bld [(Value.int .i64 0), (Value.slice none 0 0), (Value.slice none 0 0)] [((0, 1), (Value.int .i64 3)), ((1, 1), v86_126), ((2, 1), v92_134)]) fun v93_136 => CP Try.prog 71 [(Value.int .i64 1)] h135 fun v94_137 h138 => oh (bldSl 90 2 1 [(Value.bool false), (Value.int .i64 0)] [((0, 2), v94_137)] h138) fun v95_139 h140 => CP Try.prog 70 [(Value.int .i64 0), (Value.int .i64 0)] h140 fun v96_141 h142 => obP (bld [(Value.int .i64 0), (Value.int .i64 0), (Value.int .i64 0), (Value.string ⟨#[]⟩), (Value.slice none 0 0), (Value.int .i64 0), (Value.int .i64 0), (Value.slice none 0 0)] [((0, 1), (Value.int .i64 2)), ((5, 1), (Value.int .i64 1))]) fun v97_143 => oh (bldSl 134 8 2 [(Value.int .i64 0), (Value.int .i64 0), (Value.int .i64 0), (Value.string ⟨#[]⟩), (Value.slice none 0 0), (Value.int .i64 0), (Value.int .i64 0), (Value.slice none 0 0)] [((0, 8), v96_141), ((8, 8), v97_143)] h142) fun v98_144 h145 => obP (bld [(Value.int .i64 0), (Value.int .i64 0), (Value.int .i64 0), (Value.string ⟨#[]⟩), (Value.slice none 0 0), (Value.int .i64 0), (Value.int .i64 0), (Value.slice none 0 0)] [((0, 1), (Value.int .i64 17)), ((7, 1), v98_144)]) fun v99_146 => obP (bld [(Value.int .i64 0), (Value.int .i64 0), (Value.int .i64 0), (Value.int .i64 0), (Value.int .i64 0), (Value.string ⟨#[]⟩), (Value.slice none 0 0), (Value.int .i64 0), (Value.int .i64 0), (Value.slice none 0 0)] [((0, 1), (Value.int .i64 0)), ((1, 1), (Value.int .i64 1)), ((2, 8), v99_146)]) fun v100_147 => obP (bld [(Value.int .i64 0), (Value.int .i64 0), (Value.int .i64 0), (Value.string ⟨#[]⟩), (Value.slice none 0 0), (Value.int .i64 0), (Value.int .i64 0), (Value.slice none 0 0)] [((0, 1), (Value.int .i64 2)), ((5, 1), (Value.int .i64 1))]) fun v101_148 => oh (bldSl 134 8 1 [(Value.int .i64 0), (Value.int .i64 0), (Value.int .i64 0), (Value.string ⟨#[]⟩), (Value.slice none 0 0), (Value.int .i64 0), (Value.int .i64 0), (Value.slice none 0 0)] [((0, 8), v101_148)] h145) fun v102_149 h150 => obP (bld [(Value.int .i64 0), (Value.int .i64 0), (Value.int .i64 0), (Value.string ⟨#[]⟩), (Value.slice none 0 0), (Value.int .i64 0), (Value.int .i64 0), (Value.slice none 0 0)] [((0, 1), (Value.int .i64 15)), ((7, 1), v102_149)]) fun v103_151 => obP (bld [(Value.int .i64 0), (Value.int .i64 0), (Value.int .i64 0), (Value.int .i64 0), (Value.int .i64 0), (Value.string ⟨#[]⟩), (Value.slice none 0 0), (Value.int .i64 0), (Value.int .i64 0), (Value.slice none 0 0)] [((0, 1), (Value.int .i64 0)), ((1, 1), (Value.int .i64 2)), ((2, 8), v103_151)]) fun v104_152 => oh (bldSl 137 10 2 [(Value.int .i64 0), (Value.int .i64 0), (Value.int .i64 0), (Value.int .i64 0), (Value.int .i64 0), (Value.string ⟨#[]⟩), (Value.slice none 0 0), (Value.int .i64 0), (Value.int .i64 0), (Value.slice none 0 0)] [((0, 10), v100_147), ((10, 10), v104_152)] h150) fun v105_153 h154 => obP (bld [(Value.int .i64 0), (Value.slice none 0 0), (Value.slice none 0 0)] [((0, 1), (Value.int .i64 3)), ((1, 1), v95_139), ((2, 1), v105_153)]) fun v106_155 => CP Try.prog 71 [(Value.int .i64 4)] h154 fun v107_156 h157 => obP (bld [(Value.bool false), (Value.int .i64 0)] [((1, 1), (Value.int .i64 1))]) fun v108_158 => CP Try.prog 71 [(Value.int .i64 5)] h157 fun v109_159 h160 => oh (bldSl 90 2 3 [(Value.bool false), (Value.int .i64 0)] [((0, 2), v107_156), ((2, 2), v108_158), ((4, 2), v109_159)] h160) fun v110_161 h162 => CP Try.prog 70 [(Value.int .i64 0), (Value.int .i64 0)] h162 fun v111_163 h164 => obP (bld [(Value.int .i64 0), (Value.int .i64 0), (Value.int .i64 0), (Value.int .i64 0), (Value.int .i64 0), (Value.string ⟨#[]⟩), (Value.slice none 0 0), (Value.int .i64 0), (Value.int .i64 0), (Value.slice none 0 0)] [((0, 1), (Value.int .i64 2)), ((1, 1), (Value.int .i64 0)), ((2, 8), v111_163)]) fun v112_165 => CP Try.prog 70 [(Value.int .i64 2), (Value.int .i64 1)] h164 fun v113_166 h167 => obP (bld [(Value.int .i64 0), (Value.int .i64 0), (Value.int .i64 0), (Value.int .i64 0), (Value.int .i64 0), (Value.string ⟨#[]⟩), (Value.slice none 0 0), (Value.int .i64 0), (Value.int .i64 0), (Value.slice none 0 0)] [((0, 1), (Value.int .i64 0)), ((1, 1), (Value.int .i64 1)), ((2, 8), v113_166)]) fun v114_168 => obP (bld [(Value.int .i64 0), (Value.int .i64 0), (Value.string ⟨#[]⟩), (Value.slice none 0 0)] [((0, 1), (Value.int .i64 1)), ((1, 1), (Value.int .i64 2))]) fun v115_169 => CP Try.prog 69 [v115_169] h167 fun v116_170 h171 => obP (bld [(Value.int .i64 0), (Value.int .i64 0), (Value.int .i64 0), (Value.int .i64 0), (Value.int .i64 0), (Value.string ⟨#[]⟩), (Value.slice none 0 0), (Value.int .i64 0), (Value.int .i64 0), (Value.slice none 0 0)] [((0, 1), (Value.int .i64 0)), ((1, 1), (Value.int .i64 2)), ((2, 8), v116_170)]) fun v117_172 => oh (bldSl 137 10 3 [(Value.int .i64 0), (Value.int .i64 0), (Value.int .i64 0), (Value.int .i64 0), (Value.int .i64 0), (Value.string ⟨#[]⟩), (Value.slice none 0 0), (Value.int .i64 0), (Value.int .i64 0), (Value.slice none 0 0)] [((0, 10), v112_165), ((10, 10), v114_168), ((20, 10), v117_172)] h171) fun v118_173 h174 => obP (bld [(Value.int .i64 0), (Value.slice none 0 0), (Value.slice none 0 0)] [((0, 1), (Value.int .i64 3)), ((1, 1), v110_161), ((2, 1), v118_173)]) fun v119_175 => oh (bldSl 37 3 7 [(Value.int .i64 0), (Value.slice none 0 0), (Value.slice none 0 0)] [((0, 3), v50_72), ((3, 3), v63_91), ((6, 3), v80_117), ((9, 3), v84_123), ((12, 3), v93_136), ((15, 3), v106_155), ((18, 3), v119_175)] h174) fun v120_176 h177 => obP (fa 2 v3_14) fun v121_178 => obP (st 1 h177 v121_178 v120_176) fun h179 => obP (idiv .rem v0 (Value.int .i64 4)) fun v123_180 => obP (ibin .eql v123_180 (Value.int .i64 1)) fun v125_181 => obP (asB v125_181) fun b182 => bP b182 (obP (fa 2 v3_14) fun v126_183 => obP (ld1 h179 v126_183) fun v127_184 => CP Try.prog 71 [(Value.int .i64 7)] (reset h179) fun v128_185 h186 => CP Try.prog 71 [(Value.int .i64 1)] (reset (lowered h186 h179.low)) fun v129_187 h188 => obP (bld [(Value.bool false), (Value.int .i64 0)] [((1, 1), (Value.int .i64 3))]) fun v130_189 => obP (bld [(Value.bool false), (Value.int .i64 0)] [((1, 1), (Value.int .i64 3))]) fun v131_190 => oh (bldSl 90 2 4 [(Value.bool false), (Value.int .i64 0)] [((0, 2), v128_185), ((2, 2), v129_187), ((4, 2), v130_189), ((6, 2), v131_190)] (lowered h188 (lowered h186 h179.low).low)) fun v132_191 h192 => CP Try.prog 70 [(Value.int .i64 0), (Value.int .i64 0)] (reset h192) fun v133_193 h194 => obP (bld [(Value.int .i64 0), (Value.int .i64 0), (Value.int .i64 0), (Value.int .i64 0), (Value.int .i64 0), (Value.string ⟨#[]⟩), (Value.slice none 0 0), (Value.int .i64 0), (Value.int .i64 0), (Value.slice none 0 0)] [((0, 1), (Value.int .i64 3)), ((1, 1), (Value.int .i64 0)), ((2, 8), v133_193)]) fun v134_195 => CP Try.prog 70 [(Value.int .i64 0), (Value.int .i64 0)] (reset (lowered h194 h192.low)) fun v135_196 h197 => obP (bld [(Value.int .i64 0), (Value.int .i64 0), (Value.int .i64 0), (Value.string ⟨#[]⟩), (Value.slice none 0 0), (Value.int .i64 0), (Value.int .i64 0), (Value.slice none 0 0)] [((0, 1), (Value.int .i64 2)), ((5, 1), (Value.int .i64 2))]) fun v136_198 => CP Try.prog 70 [(Value.int .i64 3), (Value.int .i64 1)] (reset (lowered h197 (lowered h194 h192.low).low)) fun v137_199 h200 => oh (bldSl 134 8 3 [(Value.int .i64 0), (Value.int .i64 0), (Value.int .i64 0), (Value.string ⟨#[]⟩), (Value.slice none 0 0), (Value.int .i64 0), (Value.int .i64 0), (Value.slice none 0 0)] [((0, 8), v135_196), ((8, 8), v136_198), ((16, 8), v137_199)] (lowered h200 (lowered h197 (lowered h194 h192.low).low).low)) fun v138_201 h202 => obP (bld [(Value.int .i64 0), (Value.int .i64 0), (Value.int .i64 0), (Value.string ⟨#[]⟩), (Value.slice none 0 0), (Value.int .i64 0), (Value.int .i64 0), (Value.slice none 0 0)] [((0, 1), (Value.int .i64 16)), ((7, 1), v138_201)]) fun v139_203 => obP (bld [(Value.int .i64 0), (Value.int .i64 0), (Value.int .i64 0), (Value.int .i64 0), (Value.int .i64 0), (Value.string ⟨#[]⟩), (Value.slice none 0 0), (Value.int .i64 0), (Value.int .i64 0), (Value.slice none 0 0)] [((0, 1), (Value.int .i64 4)), ((1, 1), (Value.int .i64 0)), ((2, 8), v139_203)]) fun v140_204 => CP Try.prog 70 [(Value.int .i64 4), (Value.int .i64 1)] (reset h202) fun v141_205 h206 => obP (bld [(Value.int .i64 0), (Value.int .i64 0), (Value.int .i64 0), (Value.int .i64 0), (Value.int .i64 0), (Value.string ⟨#[]⟩), (Value.slice none 0 0), (Value.int .i64 0), (Value.int .i64 0), (Value.slice none 0 0)] [((0, 1), (Value.int .i64 0)), ((1, 1), (Value.int .i64 1)), ((2, 8), v141_205)]) fun v142_207 => CP Try.prog 70 [(Value.int .i64 3), (Value.int .i64 2)] (reset (lowered h206 h202.low)) fun v143_208 h209 => CP Try.prog 70 [(Value.int .i64 4), (Value.int .i64 2)] (reset (lowered h209 (lowered h206 h202.low).low)) fun v144_210 h211 => oh (bldSl 134 8 2 [(Value.int .i64 0), (Value.int .i64 0), (Value.int .i64 0), (Value.string ⟨#[]⟩), (Value.slice none 0 0), (Value.int .i64 0), (Value.int .i64 0), (Value.slice none 0 0)] [((0, 8), v143_208), ((8, 8), v144_210)] (lowered h211 (lowered h209 (lowered h206 h202.low).low).low)) fun v145_212 h213 => obP (bld [(Value.int .i64 0), (Value.int .i64 0), (Value.int .i64 0), (Value.string ⟨#[]⟩), (Value.slice none 0 0), (Value.int .i64 0), (Value.int .i64 0), (Value.slice none 0 0)] [((0, 1), (Value.int .i64 4)), ((7, 1), v145_212)]) fun v146_214 => obP (bld [(Value.int .i64 0), (Value.int .i64 0), (Value.int .i64 0), (Value.int .i64 0), (Value.int .i64 0), (Value.string ⟨#[]⟩), (Value.slice none 0 0), (Value.int .i64 0), (Value.int .i64 0), (Value.slice none 0 0)] [((0, 1), (Value.int .i64 0)), ((1, 1), (Value.int .i64 2)), ((2, 8), v146_214)]) fun v147_215 => oh (bldSl 137 10 4 [(Value.int .i64 0), (Value.int .i64 0), (Value.int .i64 0), (Value.int .i64 0), (Value.int .i64 0), (Value.string ⟨#[]⟩), (Value.slice none 0 0), (Value.int .i64 0), (Value.int .i64 0), (Value.slice none 0 0)] [((0, 10), v134_195), ((10, 10), v140_204), ((20, 10), v142_207), ((30, 10), v147_215)] h213) fun v148_216 h217 => obP (bld [(Value.int .i64 0), (Value.slice none 0 0), (Value.slice none 0 0)] [((0, 1), (Value.int .i64 3)), ((1, 1), v132_191), ((2, 1), v148_216)]) fun v149_218 => oh (bldSl 37 3 1 [(Value.int .i64 0), (Value.slice none 0 0), (Value.slice none 0 0)] [((0, 3), v149_218)] h217) fun v150_219 h220 => oh (appS 37 56 3 h220 v127_184 v150_219) fun v151_221 h222 => obP (fa 2 v3_14) fun v152_223 => obP (st 1 h222 v152_223 v151_221) fun h224 => (either ⟨some (blockOf v126_183), .none⟩ (callFoot h179 h186) = true ∧ either ⟨some (blockOf v126_183), .none⟩ (callFoot (lowered h186 h179.low) h188) = true ∧ either ⟨some (blockOf v126_183), .none⟩ (callFoot h192 h194) = true ∧ either ⟨some (blockOf v126_183), .none⟩ (callFoot (lowered h194 h192.low) h197) = true ∧ either ⟨some (blockOf v126_183), .none⟩ (callFoot (lowered h197 (lowered h194 h192.low).low) h200) = true ∧ either ⟨some (blockOf v126_183), .none⟩ (callFoot h202 h206) = true ∧ either ⟨some (blockOf v126_183), .none⟩ (callFoot (lowered h206 h202.low) h209) = true ∧ either ⟨some (blockOf v126_183), .none⟩ (callFoot (lowered h209 (lowered h206 h202.low).low) h211) = true) ∧ (obP (ldN 3 h224 v3_14) fun v173_225 => obP (st 3 h224 v2_1 v173_225) fun h226 => obP (ldN 3 h226 v2_1) fun r227 => Z r227 h226)) (obP (ibin .eql v123_180 (Value.int .i64 2)) fun v154_228 => obP (asB v154_228) fun b229 => bP b229 (obP (fa 2 v3_14) fun v155_230 => obP (ld1 h179 v155_230) fun v156_231 => obP (iaS 3 v156_231 (Value.int .i64 2)) fun v157_232 => obP (fa 2 v157_232) fun v158_233 => obP (ld1 h179 v158_233) fun v159_234 => obP (iaS 10 v159_234 (Value.int .i64 2)) fun v160_235 => obP (fa 2 v160_235) fun v161_236 => obP (fa 0 v161_236) fun v162_237 => obP (st 1 h179 v162_237 (Value.int .i64 6)) fun h238 => obP (ldN 3 h238 v3_14) fun v173_239 => obP (st 3 h238 v2_1 v173_239) fun h240 => obP (ldN 3 h240 v2_1) fun r241 => Z r241 h240) (obP (ibin .eql v123_180 (Value.int .i64 3)) fun v164_242 => obP (asB v164_242) fun b243 => bP b243 (obP (fa 2 v3_14) fun v165_244 => obP (ld1 h179 v165_244) fun v166_245 => obP (iaS 3 v166_245 (Value.int .i64 0)) fun v167_246 => obP (fa 2 v167_246) fun v168_247 => obP (ld1 h179 v168_247) fun v169_248 => obP (bld [(Value.int .i64 0), (Value.int .i64 0), (Value.int .i64 0), (Value.string ⟨#[]⟩), (Value.slice none 0 0), (Value.int .i64 0), (Value.int .i64 0), (Value.slice none 0 0)] [((0, 1), (Value.int .i64 22))]) fun v170_249 => obP (iaS 10 v169_248 (Value.int .i64 0)) fun v171_250 => obP (fa 2 v171_250) fun v172_251 => obP (st 8 h179 v172_251 v170_249) fun h252 => obP (ldN 3 h252 v3_14) fun v173_253 => obP (st 3 h252 v2_1 v173_253) fun h254 => obP (ldN 3 h254 v2_1) fun r255 => Z r255 h254) (obP (ldN 3 h179 v3_14) fun v173_256 => obP (st 3 h179 v2_1 v173_256) fun h257 => obP (ldN 3 h257 v2_1) fun r258 => Z r258 h257)))) : CP Try.prog 32 [v0] h Z := by
  refine CP_of df32 ?_
  refine W_seq ?_
  refine W_plain ?_
  refine VO_2 (s_al zc28) H fun v2_1 h2 H => ?_
  refine VO_nil ?_
  refine kont_seq ?_
  refine W_seq ?_
  refine W_plain ?_
  refine VO_1 (s_bld zc99 ud99 hs99 (fil_cons tf99_0 (fil_cons tf99_1 fil_nil)) (fil_top (fil_top rfl))) H fun v4_3 H => ?_
  refine VO_1 (s_bld zc99 ud99 hs99 (fil_cons tf99_0 (fil_cons tf99_1 fil_nil)) (fil_top (fil_top rfl))) H fun v5_4 H => ?_
  refine VO_1 (s_bld zc99 ud99 hs99 (fil_cons tf99_0 (fil_cons tf99_1 fil_nil)) (fil_top (fil_top rfl))) H fun v6_5 H => ?_
  refine VO_1 (s_bld zc99 ud99 hs99 (fil_cons tf99_0 (fil_cons tf99_1 fil_nil)) (fil_top (fil_top rfl))) H fun v7_6 H => ?_
  refine VO_1 (s_bld zc99 ud99 hs99 (fil_cons tf99_0 (fil_cons tf99_1 fil_nil)) (fil_top (fil_top rfl))) H fun v8_7 H => ?_
  refine VO_1 (s_bld zc99 ud99 hs99 (fil_cons tf99_0 (fil_cons tf99_1 fil_nil)) (fil_top (fil_top rfl))) H fun v9_8 H => ?_
  refine VO_1 (s_bld zc99 ud99 hs99 (fil_cons tf99_0 (fil_cons tf99_1 (fil_cons tf99_2 fil_nil))) (fil_top (fil_top (fil_top rfl)))) H fun v10_9 H => ?_
  refine VO_1 (s_bld zc99 ud99 hs99 (fil_cons tf99_0 (fil_cons tf99_1 fil_nil)) (fil_top (fil_top rfl))) H fun v11_10 H => ?_
  refine VO_2 (s_bldSl el24 sz99 zr99 (fil_cons rfl (fil_cons rfl (fil_cons rfl (fil_cons rfl (fil_cons rfl (fil_cons rfl (fil_cons rfl (fil_cons rfl fil_nil)))))))) (fil_top (fil_top (fil_top (fil_top (fil_top (fil_top (fil_top (fil_top rfl))))))))) H fun v12_11 h12 H => ?_
  refine VO_1 (s_bld zc28 ud28 hs28 (fil_cons tf28_0 fil_nil) (fil_top rfl)) H fun v13_13 H => ?_
  refine VO_2 (s_al zc28) H fun v3_14 h15 H => ?_
  refine VO_3 (s_store sz28) H fun h16 H => ?_
  refine VO_nil ?_
  refine kont_seq ?_
  refine W_seq ?_
  refine W_plain ?_
  refine VO_1 (s_fa tf28_0 rfl) H fun v14_17 H => ?_
  refine VO_1 (s_load1 ag24) H fun v15_18 H => ?_
  refine VO_1 (s_iaS sl24 el24 sz99) H fun v16_19 H => ?_
  refine VO_1 (s_fa tf99_1 rfl) H fun v17_20 H => ?_
  refine VO_3 (s_store sz9) H fun h21 H => ?_
  refine VO_nil ?_
  refine kont_seq ?_
  refine W_seq ?_
  refine W_plain ?_
  refine VO_2 (s_bldSl el56 sz9 zr9 (fil_cons rfl (fil_cons rfl fil_nil)) (fil_top (fil_top rfl))) H fun v18_22 h23 H => ?_
  refine VO_1 (s_bld zc101 ud101 hs101 (fil_cons tf101_0 (fil_cons tf101_2 fil_nil)) (fil_top (fil_top rfl))) H fun v19_24 H => ?_
  refine VO_2 (s_bldSl el56 sz9 zr9 (fil_cons rfl fil_nil) (fil_top rfl)) H fun v20_25 h26 H => ?_
  refine VO_2 (s_bldSl el56 sz9 zr9 (fil_cons rfl fil_nil) (fil_top rfl)) H fun v21_27 h28 H => ?_
  refine VO_1 (s_bld zc101 ud101 hs101 (fil_cons tf101_0 (fil_cons tf101_1 (fil_cons tf101_2 fil_nil))) (fil_top (fil_top (fil_top rfl)))) H fun v22_29 H => ?_
  refine VO_2 (s_bldSl el56 sz9 zr9 (fil_cons rfl (fil_cons rfl fil_nil)) (fil_top (fil_top rfl))) H fun v23_30 h31 H => ?_
  refine VO_2 (s_bldSl el56 sz9 zr9 (fil_cons rfl fil_nil) (fil_top rfl)) H fun v24_32 h33 H => ?_
  refine VO_1 (s_bld zc101 ud101 hs101 (fil_cons tf101_0 (fil_cons tf101_1 (fil_cons tf101_2 fil_nil))) (fil_top (fil_top (fil_top rfl)))) H fun v25_34 H => ?_
  refine VO_2 (s_bldSl el56 sz9 zr9 (fil_cons rfl fil_nil) (fil_top rfl)) H fun v26_35 h36 H => ?_
  refine VO_2 (s_bldSl el56 sz9 zr9 (fil_cons rfl (fil_cons rfl fil_nil)) (fil_top (fil_top rfl))) H fun v27_37 h38 H => ?_
  refine VO_1 (s_bld zc101 ud101 hs101 (fil_cons tf101_0 (fil_cons tf101_1 (fil_cons tf101_2 fil_nil))) (fil_top (fil_top (fil_top rfl)))) H fun v28_39 H => ?_
  refine VO_2 (s_bldSl el25 sz101 zr101 (fil_cons rfl (fil_cons rfl (fil_cons rfl (fil_cons rfl fil_nil)))) (fil_top (fil_top (fil_top (fil_top rfl))))) H fun v29_40 h41 H => ?_
  refine VO_1 (s_fa tf28_1 rfl) H fun v30_42 H => ?_
  refine VO_3 (s_store sz25) H fun h43 H => ?_
  refine VO_nil ?_
  refine kont_seq ?_
  refine W_seq ?_
  refine W_plain ?_
  refine VO_1 (s_bld zc90 ud90 hs90 (fil_cons tf90_1 fil_nil) (fil_top rfl)) H fun v31_44 H => ?_
  refine VO_2 (s_bldSl el34 sz90 zr90 (fil_cons rfl fil_nil) (fil_top rfl)) H fun v32_45 h46 H => ?_
  refine VO_1 (s_bld zc134 ud134 hs134 (fil_cons tf134_0 fil_nil) (fil_top rfl)) H fun v33_47 H => ?_
  refine VO_1 (s_bld zc131 ud131 hs131 (fil_cons tf131_0 (fil_cons tf131_2 fil_nil)) (fil_top (fil_top rfl))) H fun v34_48 H => ?_
  refine VO_4 rfl H fun v35_49 h50 H => ?_
  refine VO_1 (s_bld zc131 ud131 hs131 (fil_cons tf131_0 (fil_cons tf131_1 fil_nil)) (fil_top (fil_top rfl))) H fun v36_51 H => ?_
  refine VO_4 rfl H fun v37_52 h53 H => ?_
  refine VO_2 (s_bldSl el132 sz134 zr134 (fil_cons rfl (fil_cons rfl (fil_cons rfl fil_nil))) (fil_top (fil_top (fil_top rfl)))) H fun v38_54 h55 H => ?_
  refine VO_1 (s_bld zc134 ud134 hs134 (fil_cons tf134_0 (fil_cons tf134_4 fil_nil)) (fil_top (fil_top rfl))) H fun v39_56 H => ?_
  refine VO_1 (s_bld zc137 ud137 hs137 (fil_cons tf137_0 (fil_cons tf137_1 (fil_cons tf137_2 fil_nil))) (fil_top (fil_top (fil_top rfl)))) H fun v40_57 H => ?_
  refine VO_4 rfl H fun v41_58 h59 H => ?_
  refine VO_1 (s_bld zc137 ud137 hs137 (fil_cons tf137_0 (fil_cons tf137_1 (fil_cons tf137_2 fil_nil))) (fil_top (fil_top (fil_top rfl)))) H fun v42_60 H => ?_
  refine VO_4 rfl H fun v43_61 h62 H => ?_
  refine VO_1 (s_bld zc131 ud131 hs131 (fil_cons tf131_0 (fil_cons tf131_1 fil_nil)) (fil_top (fil_top rfl))) H fun v44_63 H => ?_
  refine VO_4 rfl H fun v45_64 h65 H => ?_
  refine VO_2 (s_bldSl el132 sz134 zr134 (fil_cons rfl (fil_cons rfl fil_nil)) (fil_top (fil_top rfl))) H fun v46_66 h67 H => ?_
  refine VO_1 (s_bld zc134 ud134 hs134 (fil_cons tf134_0 (fil_cons tf134_4 fil_nil)) (fil_top (fil_top rfl))) H fun v47_68 H => ?_
  refine VO_1 (s_bld zc137 ud137 hs137 (fil_cons tf137_0 (fil_cons tf137_1 (fil_cons tf137_2 fil_nil))) (fil_top (fil_top (fil_top rfl)))) H fun v48_69 H => ?_
  refine VO_2 (s_bldSl el35 sz137 zr137 (fil_cons rfl (fil_cons rfl (fil_cons rfl fil_nil))) (fil_top (fil_top (fil_top rfl)))) H fun v49_70 h71 H => ?_
  refine VO_1 (s_bld zc37 ud37 hs37 (fil_cons tf37_0 (fil_cons tf37_1 (fil_cons tf37_2 fil_nil))) (fil_top (fil_top (fil_top rfl)))) H fun v50_72 H => ?_
  refine VO_1 (s_bld zc90 ud90 hs90 (fil_cons tf90_1 fil_nil) (fil_top rfl)) H fun v51_73 H => ?_
  refine VO_1 (s_bld zc90 ud90 hs90 (fil_cons tf90_1 fil_nil) (fil_top rfl)) H fun v52_74 H => ?_
  refine VO_2 (s_bldSl el34 sz90 zr90 (fil_cons rfl (fil_cons rfl fil_nil)) (fil_top (fil_top rfl))) H fun v53_75 h76 H => ?_
  refine VO_4 rfl H fun v54_77 h78 H => ?_
  refine VO_1 (s_bld zc137 ud137 hs137 (fil_cons tf137_0 (fil_cons tf137_1 (fil_cons tf137_2 fil_nil))) (fil_top (fil_top (fil_top rfl)))) H fun v55_79 H => ?_
  refine VO_4 rfl H fun v56_80 h81 H => ?_
  refine VO_1 (s_bld zc137 ud137 hs137 (fil_cons tf137_0 (fil_cons tf137_1 (fil_cons tf137_2 fil_nil))) (fil_top (fil_top (fil_top rfl)))) H fun v57_82 H => ?_
  refine VO_4 rfl H fun v58_83 h84 H => ?_
  refine VO_1 (s_bld zc137 ud137 hs137 (fil_cons tf137_0 (fil_cons tf137_1 (fil_cons tf137_2 fil_nil))) (fil_top (fil_top (fil_top rfl)))) H fun v59_85 H => ?_
  refine VO_4 rfl H fun v60_86 h87 H => ?_
  refine VO_1 (s_bld zc137 ud137 hs137 (fil_cons tf137_0 (fil_cons tf137_1 (fil_cons tf137_2 fil_nil))) (fil_top (fil_top (fil_top rfl)))) H fun v61_88 H => ?_
  refine VO_2 (s_bldSl el35 sz137 zr137 (fil_cons rfl (fil_cons rfl (fil_cons rfl (fil_cons rfl fil_nil)))) (fil_top (fil_top (fil_top (fil_top rfl))))) H fun v62_89 h90 H => ?_
  refine VO_1 (s_bld zc37 ud37 hs37 (fil_cons tf37_0 (fil_cons tf37_1 (fil_cons tf37_2 fil_nil))) (fil_top (fil_top (fil_top rfl)))) H fun v63_91 H => ?_
  refine VO_4 rfl H fun v64_92 h93 H => ?_
  refine VO_1 (s_bld zc90 ud90 hs90 (fil_cons tf90_1 fil_nil) (fil_top rfl)) H fun v65_94 H => ?_
  refine VO_1 (s_bld zc90 ud90 hs90 (fil_cons tf90_1 fil_nil) (fil_top rfl)) H fun v66_95 H => ?_
  refine VO_2 (s_bldSl el34 sz90 zr90 (fil_cons rfl (fil_cons rfl (fil_cons rfl fil_nil))) (fil_top (fil_top (fil_top rfl)))) H fun v67_96 h97 H => ?_
  refine VO_4 rfl H fun v68_98 h99 H => ?_
  refine VO_1 (s_bld zc137 ud137 hs137 (fil_cons tf137_0 (fil_cons tf137_1 (fil_cons tf137_2 fil_nil))) (fil_top (fil_top (fil_top rfl)))) H fun v69_100 H => ?_
  refine VO_4 rfl H fun v70_101 h102 H => ?_
  refine VO_1 (s_bld zc137 ud137 hs137 (fil_cons tf137_0 (fil_cons tf137_1 (fil_cons tf137_2 fil_nil))) (fil_top (fil_top (fil_top rfl)))) H fun v71_103 H => ?_
  refine VO_4 rfl H fun v72_104 h105 H => ?_
  refine VO_4 rfl H fun v73_106 h107 H => ?_
  refine VO_2 (s_bldSl el132 sz134 zr134 (fil_cons rfl (fil_cons rfl fil_nil)) (fil_top (fil_top rfl))) H fun v74_108 h109 H => ?_
  refine VO_1 (s_bld zc134 ud134 hs134 (fil_cons tf134_0 (fil_cons tf134_4 fil_nil)) (fil_top (fil_top rfl))) H fun v75_110 H => ?_
  refine VO_1 (s_bld zc137 ud137 hs137 (fil_cons tf137_0 (fil_cons tf137_1 (fil_cons tf137_2 fil_nil))) (fil_top (fil_top (fil_top rfl)))) H fun v76_111 H => ?_
  refine VO_4 rfl H fun v77_112 h113 H => ?_
  refine VO_1 (s_bld zc137 ud137 hs137 (fil_cons tf137_0 (fil_cons tf137_1 (fil_cons tf137_2 fil_nil))) (fil_top (fil_top (fil_top rfl)))) H fun v78_114 H => ?_
  refine VO_2 (s_bldSl el35 sz137 zr137 (fil_cons rfl (fil_cons rfl (fil_cons rfl (fil_cons rfl fil_nil)))) (fil_top (fil_top (fil_top (fil_top rfl))))) H fun v79_115 h116 H => ?_
  refine VO_1 (s_bld zc37 ud37 hs37 (fil_cons tf37_0 (fil_cons tf37_1 (fil_cons tf37_2 fil_nil))) (fil_top (fil_top (fil_top rfl)))) H fun v80_117 H => ?_
  refine VO_4 rfl H fun v81_118 h119 H => ?_
  refine VO_1 (s_bld zc137 ud137 hs137 (fil_cons tf137_0 (fil_cons tf137_1 (fil_cons tf137_2 fil_nil))) (fil_top (fil_top (fil_top rfl)))) H fun v82_120 H => ?_
  refine VO_2 (s_bldSl el35 sz137 zr137 (fil_cons rfl fil_nil) (fil_top rfl)) H fun v83_121 h122 H => ?_
  refine VO_1 (s_bld zc37 ud37 hs37 (fil_cons tf37_0 (fil_cons tf37_2 fil_nil)) (fil_top (fil_top rfl))) H fun v84_123 H => ?_
  refine VO_4 rfl H fun v85_124 h125 H => ?_
  refine VO_2 (s_bldSl el34 sz90 zr90 (fil_cons rfl fil_nil) (fil_top rfl)) H fun v86_126 h127 H => ?_
  refine VO_1 (s_bld zc134 ud134 hs134 (fil_cons tf134_0 (fil_cons tf134_2 fil_nil)) (fil_top (fil_top rfl))) H fun v87_128 H => ?_
  refine VO_1 (s_bld zc137 ud137 hs137 (fil_cons tf137_0 (fil_cons tf137_1 (fil_cons tf137_2 fil_nil))) (fil_top (fil_top (fil_top rfl)))) H fun v88_129 H => ?_
  refine VO_1 (s_bld zc131 ud131 hs131 (fil_cons tf131_0 (fil_cons tf131_1 fil_nil)) (fil_top (fil_top rfl))) H fun v89_130 H => ?_
  refine VO_4 rfl H fun v90_131 h132 H => ?_
  refine VO_1 (s_bld zc137 ud137 hs137 (fil_cons tf137_0 (fil_cons tf137_1 (fil_cons tf137_2 fil_nil))) (fil_top (fil_top (fil_top rfl)))) H fun v91_133 H => ?_
  refine VO_2 (s_bldSl el35 sz137 zr137 (fil_cons rfl (fil_cons rfl fil_nil)) (fil_top (fil_top rfl))) H fun v92_134 h135 H => ?_
  refine VO_1 (s_bld zc37 ud37 hs37 (fil_cons tf37_0 (fil_cons tf37_1 (fil_cons tf37_2 fil_nil))) (fil_top (fil_top (fil_top rfl)))) H fun v93_136 H => ?_
  refine VO_4 rfl H fun v94_137 h138 H => ?_
  refine VO_2 (s_bldSl el34 sz90 zr90 (fil_cons rfl fil_nil) (fil_top rfl)) H fun v95_139 h140 H => ?_
  refine VO_4 rfl H fun v96_141 h142 H => ?_
  refine VO_1 (s_bld zc134 ud134 hs134 (fil_cons tf134_0 (fil_cons tf134_2 fil_nil)) (fil_top (fil_top rfl))) H fun v97_143 H => ?_
  refine VO_2 (s_bldSl el132 sz134 zr134 (fil_cons rfl (fil_cons rfl fil_nil)) (fil_top (fil_top rfl))) H fun v98_144 h145 H => ?_
  refine VO_1 (s_bld zc134 ud134 hs134 (fil_cons tf134_0 (fil_cons tf134_4 fil_nil)) (fil_top (fil_top rfl))) H fun v99_146 H => ?_
  refine VO_1 (s_bld zc137 ud137 hs137 (fil_cons tf137_0 (fil_cons tf137_1 (fil_cons tf137_2 fil_nil))) (fil_top (fil_top (fil_top rfl)))) H fun v100_147 H => ?_
  refine VO_1 (s_bld zc134 ud134 hs134 (fil_cons tf134_0 (fil_cons tf134_2 fil_nil)) (fil_top (fil_top rfl))) H fun v101_148 H => ?_
  refine VO_2 (s_bldSl el132 sz134 zr134 (fil_cons rfl fil_nil) (fil_top rfl)) H fun v102_149 h150 H => ?_
  refine VO_1 (s_bld zc134 ud134 hs134 (fil_cons tf134_0 (fil_cons tf134_4 fil_nil)) (fil_top (fil_top rfl))) H fun v103_151 H => ?_
  refine VO_1 (s_bld zc137 ud137 hs137 (fil_cons tf137_0 (fil_cons tf137_1 (fil_cons tf137_2 fil_nil))) (fil_top (fil_top (fil_top rfl)))) H fun v104_152 H => ?_
  refine VO_2 (s_bldSl el35 sz137 zr137 (fil_cons rfl (fil_cons rfl fil_nil)) (fil_top (fil_top rfl))) H fun v105_153 h154 H => ?_
  refine VO_1 (s_bld zc37 ud37 hs37 (fil_cons tf37_0 (fil_cons tf37_1 (fil_cons tf37_2 fil_nil))) (fil_top (fil_top (fil_top rfl)))) H fun v106_155 H => ?_
  refine VO_4 rfl H fun v107_156 h157 H => ?_
  refine VO_1 (s_bld zc90 ud90 hs90 (fil_cons tf90_1 fil_nil) (fil_top rfl)) H fun v108_158 H => ?_
  refine VO_4 rfl H fun v109_159 h160 H => ?_
  refine VO_2 (s_bldSl el34 sz90 zr90 (fil_cons rfl (fil_cons rfl (fil_cons rfl fil_nil))) (fil_top (fil_top (fil_top rfl)))) H fun v110_161 h162 H => ?_
  refine VO_4 rfl H fun v111_163 h164 H => ?_
  refine VO_1 (s_bld zc137 ud137 hs137 (fil_cons tf137_0 (fil_cons tf137_1 (fil_cons tf137_2 fil_nil))) (fil_top (fil_top (fil_top rfl)))) H fun v112_165 H => ?_
  refine VO_4 rfl H fun v113_166 h167 H => ?_
  refine VO_1 (s_bld zc137 ud137 hs137 (fil_cons tf137_0 (fil_cons tf137_1 (fil_cons tf137_2 fil_nil))) (fil_top (fil_top (fil_top rfl)))) H fun v114_168 H => ?_
  refine VO_1 (s_bld zc131 ud131 hs131 (fil_cons tf131_0 (fil_cons tf131_1 fil_nil)) (fil_top (fil_top rfl))) H fun v115_169 H => ?_
  refine VO_4 rfl H fun v116_170 h171 H => ?_
  refine VO_1 (s_bld zc137 ud137 hs137 (fil_cons tf137_0 (fil_cons tf137_1 (fil_cons tf137_2 fil_nil))) (fil_top (fil_top (fil_top rfl)))) H fun v117_172 H => ?_
  refine VO_2 (s_bldSl el35 sz137 zr137 (fil_cons rfl (fil_cons rfl (fil_cons rfl fil_nil))) (fil_top (fil_top (fil_top rfl)))) H fun v118_173 h174 H => ?_
  refine VO_1 (s_bld zc37 ud37 hs37 (fil_cons tf37_0 (fil_cons tf37_1 (fil_cons tf37_2 fil_nil))) (fil_top (fil_top (fil_top rfl)))) H fun v119_175 H => ?_
  refine VO_2 (s_bldSl el26 sz37 zr37 (fil_cons rfl (fil_cons rfl (fil_cons rfl (fil_cons rfl (fil_cons rfl (fil_cons rfl (fil_cons rfl fil_nil))))))) (fil_top (fil_top (fil_top (fil_top (fil_top (fil_top (fil_top rfl)))))))) H fun v120_176 h177 H => ?_
  refine VO_1 (s_fa tf28_2 rfl) H fun v121_178 H => ?_
  refine VO_3 (s_store sz26) H fun h179 H => ?_
  refine VO_nil ?_
  refine kont_seq ?_
  refine W_seq ?_
  refine W_seq ?_
  refine W_plain ?_
  refine VO_5 s_move ?_
  refine VO_1 s_idiv H fun v123_180 H => ?_
  refine VO_nil ?_
  refine kont_seq ?_
  refine W_block ?_
  refine W_seq ?_
  refine W_plain ?_
  refine VO_1 s_ibin H fun v125_181 H => ?_
  refine VO_5 s_assign ?_
  refine VO_nil ?_
  refine kont_seq ?_
  refine obP_elim H fun b182 eb182 H => W_cond eb182 (bP_imp H (fun H => ?_) (fun H => ?_))
  · refine W_drawF dp32_7 ?_
    refine VF_1 rfl (s_fa tf28_2 rfl) H fun v126_183 H => ?_
    refine VF_1 rfl (s_load1 ag26) H fun v127_184 H => ?_
    refine VF_4 rfl rfl H fun v128_185 h186 H => ?_
    refine VF_4 rfl rfl H fun v129_187 h188 H => ?_
    refine VF_1 rfl (s_bld zc90 ud90 hs90 (fil_cons tf90_1 fil_nil) (fil_top rfl)) H fun v130_189 H => ?_
    refine VF_1 rfl (s_bld zc90 ud90 hs90 (fil_cons tf90_1 fil_nil) (fil_top rfl)) H fun v131_190 H => ?_
    refine VF_2 rfl (s_bldSl el34 sz90 zr90 (fil_cons rfl (fil_cons rfl (fil_cons rfl (fil_cons rfl fil_nil)))) (fil_top (fil_top (fil_top (fil_top rfl))))) H fun v132_191 h192 H => ?_
    refine VF_4 rfl rfl H fun v133_193 h194 H => ?_
    refine VF_1 rfl (s_bld zc137 ud137 hs137 (fil_cons tf137_0 (fil_cons tf137_1 (fil_cons tf137_2 fil_nil))) (fil_top (fil_top (fil_top rfl)))) H fun v134_195 H => ?_
    refine VF_4 rfl rfl H fun v135_196 h197 H => ?_
    refine VF_1 rfl (s_bld zc134 ud134 hs134 (fil_cons tf134_0 (fil_cons tf134_2 fil_nil)) (fil_top (fil_top rfl))) H fun v136_198 H => ?_
    refine VF_4 rfl rfl H fun v137_199 h200 H => ?_
    refine VF_2 rfl (s_bldSl el132 sz134 zr134 (fil_cons rfl (fil_cons rfl (fil_cons rfl fil_nil))) (fil_top (fil_top (fil_top rfl)))) H fun v138_201 h202 H => ?_
    refine VF_1 rfl (s_bld zc134 ud134 hs134 (fil_cons tf134_0 (fil_cons tf134_4 fil_nil)) (fil_top (fil_top rfl))) H fun v139_203 H => ?_
    refine VF_1 rfl (s_bld zc137 ud137 hs137 (fil_cons tf137_0 (fil_cons tf137_1 (fil_cons tf137_2 fil_nil))) (fil_top (fil_top (fil_top rfl)))) H fun v140_204 H => ?_
    refine VF_4 rfl rfl H fun v141_205 h206 H => ?_
    refine VF_1 rfl (s_bld zc137 ud137 hs137 (fil_cons tf137_0 (fil_cons tf137_1 (fil_cons tf137_2 fil_nil))) (fil_top (fil_top (fil_top rfl)))) H fun v142_207 H => ?_
    refine VF_4 rfl rfl H fun v143_208 h209 H => ?_
    refine VF_4 rfl rfl H fun v144_210 h211 H => ?_
    refine VF_2 rfl (s_bldSl el132 sz134 zr134 (fil_cons rfl (fil_cons rfl fil_nil)) (fil_top (fil_top rfl))) H fun v145_212 h213 H => ?_
    refine VF_1 rfl (s_bld zc134 ud134 hs134 (fil_cons tf134_0 (fil_cons tf134_4 fil_nil)) (fil_top (fil_top rfl))) H fun v146_214 H => ?_
    refine VF_1 rfl (s_bld zc137 ud137 hs137 (fil_cons tf137_0 (fil_cons tf137_1 (fil_cons tf137_2 fil_nil))) (fil_top (fil_top (fil_top rfl)))) H fun v147_215 H => ?_
    refine VF_2 rfl (s_bldSl el35 sz137 zr137 (fil_cons rfl (fil_cons rfl (fil_cons rfl (fil_cons rfl fil_nil)))) (fil_top (fil_top (fil_top (fil_top rfl))))) H fun v148_216 h217 H => ?_
    refine VF_1 rfl (s_bld zc37 ud37 hs37 (fil_cons tf37_0 (fil_cons tf37_1 (fil_cons tf37_2 fil_nil))) (fil_top (fil_top (fil_top rfl)))) H fun v149_218 H => ?_
    refine VF_2 rfl (s_bldSl el26 sz37 zr37 (fil_cons rfl fil_nil) (fil_top rfl)) H fun v150_219 h220 H => ?_
    refine VF_2 rfl (s_app el26 ud26 sz37 by37 zr37) H fun v151_221 h222 H => ?_
    refine VF_1 rfl (s_fa tf28_2 rfl) H fun v152_223 H => ?_
    refine VF_3 rfl (s_store sz26) H fun h224 H => ?_
    refine VF_nil ?_
    refine ⟨eA_cons H.1.1 (eA_cons H.1.2.1 (eA_cons H.1.2.2.1 (eA_cons H.1.2.2.2.1 (eA_cons H.1.2.2.2.2.1 (eA_cons H.1.2.2.2.2.2.1 (eA_cons H.1.2.2.2.2.2.2.1 (eA_cons H.1.2.2.2.2.2.2.2 eA_nil))))))), ?_⟩
    replace H := H.2
    refine kont_block ?_
    refine kont_seq ?_
    refine W_seq ?_
    refine W_plain ?_
    refine VO_1 (s_loadN ag28 sz28) H fun v173_225 H => ?_
    refine VO_3 (s_store sz28) H fun h226 H => ?_
    refine VO_nil ?_
    refine kont_seq ?_
    refine W_ret ?_
    refine obP_elim H fun r227 er227 H => ?_
    exact ⟨rfl, obP_of (dres_mk (lm_cons ((dload_N ag28 sz28).trans er227) lm_nil)) H⟩
  · refine W_seq ?_
    refine W_plain ?_
    refine VO_1 s_ibin H fun v154_228 H => ?_
    refine VO_5 s_assign ?_
    refine VO_nil ?_
    refine kont_seq ?_
    refine obP_elim H fun b229 eb229 H => W_cond eb229 (bP_imp H (fun H => ?_) (fun H => ?_))
    · refine W_plain ?_
      refine VO_1 (s_fa tf28_2 rfl) H fun v155_230 H => ?_
      refine VO_1 (s_load1 ag26) H fun v156_231 H => ?_
      refine VO_1 (s_iaS sl26 el26 sz37) H fun v157_232 H => ?_
      refine VO_1 (s_fa tf37_2 rfl) H fun v158_233 H => ?_
      refine VO_1 (s_load1 ag35) H fun v159_234 H => ?_
      refine VO_1 (s_iaS sl35 el35 sz137) H fun v160_235 H => ?_
      refine VO_1 (s_fa tf137_2 rfl) H fun v161_236 H => ?_
      refine VO_1 (s_fa tf134_0 rfl) H fun v162_237 H => ?_
      refine VO_3 (s_store sz3) H fun h238 H => ?_
      refine VO_nil ?_
      refine kont_block ?_
      refine kont_seq ?_
      refine W_seq ?_
      refine W_plain ?_
      refine VO_1 (s_loadN ag28 sz28) H fun v173_239 H => ?_
      refine VO_3 (s_store sz28) H fun h240 H => ?_
      refine VO_nil ?_
      refine kont_seq ?_
      refine W_ret ?_
      refine obP_elim H fun r241 er241 H => ?_
      exact ⟨rfl, obP_of (dres_mk (lm_cons ((dload_N ag28 sz28).trans er241) lm_nil)) H⟩
    · refine W_seq ?_
      refine W_plain ?_
      refine VO_1 s_ibin H fun v164_242 H => ?_
      refine VO_5 s_assign ?_
      refine VO_nil ?_
      refine kont_seq ?_
      refine obP_elim H fun b243 eb243 H => W_cond eb243 (bP_imp H (fun H => ?_) (fun H => ?_))
      · refine W_plain ?_
        refine VO_1 (s_fa tf28_2 rfl) H fun v165_244 H => ?_
        refine VO_1 (s_load1 ag26) H fun v166_245 H => ?_
        refine VO_1 (s_iaS sl26 el26 sz37) H fun v167_246 H => ?_
        refine VO_1 (s_fa tf37_2 rfl) H fun v168_247 H => ?_
        refine VO_1 (s_load1 ag35) H fun v169_248 H => ?_
        refine VO_1 (s_bld zc134 ud134 hs134 (fil_cons tf134_0 fil_nil) (fil_top rfl)) H fun v170_249 H => ?_
        refine VO_1 (s_iaS sl35 el35 sz137) H fun v171_250 H => ?_
        refine VO_1 (s_fa tf137_2 rfl) H fun v172_251 H => ?_
        refine VO_3 (s_store sz134) H fun h252 H => ?_
        refine VO_nil ?_
        refine kont_block ?_
        refine kont_seq ?_
        refine W_seq ?_
        refine W_plain ?_
        refine VO_1 (s_loadN ag28 sz28) H fun v173_253 H => ?_
        refine VO_3 (s_store sz28) H fun h254 H => ?_
        refine VO_nil ?_
        refine kont_seq ?_
        refine W_ret ?_
        refine obP_elim H fun r255 er255 H => ?_
        exact ⟨rfl, obP_of (dres_mk (lm_cons ((dload_N ag28 sz28).trans er255) lm_nil)) H⟩
      · refine W_skip ?_
        refine kont_block ?_
        refine kont_seq ?_
        refine W_seq ?_
        refine W_plain ?_
        refine VO_1 (s_loadN ag28 sz28) H fun v173_256 H => ?_
        refine VO_3 (s_store sz28) H fun h257 H => ?_
        refine VO_nil ?_
        refine kont_seq ?_
        refine W_ret ?_
        refine obP_elim H fun r258 er258 H => ?_
        exact ⟨rfl, obP_of (dres_mk (lm_cons ((dload_N ag28 sz28).trans er258) lm_nil)) H⟩

end Go.Det
end

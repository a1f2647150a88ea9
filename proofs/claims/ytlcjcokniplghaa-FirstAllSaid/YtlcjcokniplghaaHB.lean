/- lemmataref11: Row of sets, behind. -/
import Derived.Test.YtlcjcokniplghaaFB
import Derived.Test.YtlcjcokniplghaaHA
set_option linter.unusedVariables false
set_option linter.unusedSimpArgs false
set_option maxRecDepth 100000
noncomputable section
namespace Go.Det
open Go.Proofs

theorem bitsL_setv {n i : Nat} {p : Nat → Bool} {c : Bool} (hi : i < n) : bitsL n (fun j => if j = i then c else p j) = (bitsL n p).take i ++ [.bool c] ++ (bitsL n p).drop (i + 1) := by
  have : (bitsL n p).take i ++ [.bool c] ++ (bitsL n p).drop (i + 1) = (bitsL n p).set i (.bool c) := by
    rw [List.set_eq_take_append_cons_drop, if_pos (by rw [bitsL_len]; exact hi)]; simp
  rw [this]
  refine List.ext_getElem? fun j => ?_
  rw [List.getElem?_set]
  by_cases hj : j < n
  · rw [bitsL_get hj]
    by_cases he : i = j
    · subst he; simp [bitsL_len, hj]
    · rw [if_neg he, bitsL_get hj, if_neg (by omega)]
  · rw [List.getElem?_eq_none (by rw [bitsL_len]; omega)]
    rw [if_neg (by omega), List.getElem?_eq_none (by rw [bitsL_len]; omega)]
theorem Vec.stv {h : DH} {b n i : Nat} {p : Nat → Bool} {c : Bool} {F : DH → Prop} (a : Vec h b n p) (hi : i < n) (K : ∀ h', Vec h' b n (fun j => if j = i then c else p j) → Kp h h' (· = b) → F h') : obP (Go.Det.st 1 h (.pointer (some ⟨b, i, none⟩)) (.bool c)) F := by
  refine st_ok (c' := bitsL n (fun j => if j = i then c else p j)) a rfl rfl rfl rfl (by rw [bitsL_len]; omega) rfl (bitsL_setv hi) ?_
  exact K _ (Has.upd_self a _) (Kp.upd _ (.inl rfl))
theorem row40_ok {h : DH} {v rv s2 : Value} {g : Gm} {nb m : Nat} {nf : Nat → Bool} {bs : Nat → Nat} {P : Nat → Nat → Bool} {r : List Sy} {Z : Value → DH → Prop} (a : GmAt h v g) (ht : g.toks.length ≤ 8) (vn : Vec h nb g.nts.length nf) (mt : Mat h m g.nts.length g.toks.length bs P) (hr : RowsAt h rv 90 2 (r.map symCells)) (hrl : r.length < 1000) (hs : ∀ s, s ∈ r → SymOk g s)
    (K : ∀ h' b, Ext h h' → h.n ≤ b → Vec h' b g.toks.length (rowF nf P r) → Z (.tuple ⟨[slb b g.toks.length, .bool (rowN nf r)]⟩) h') : CP Try.prog 40 [.agg ⟨[slb nb g.nts.length, slb m g.nts.length, s2]⟩, v, rv] h Z := by
  apply R40
  refine bx_agg ?_
  have e0 := Ext.push h (.cells [slb nb g.nts.length, slb m g.nts.length, s2] 67 .exact)
  have q0 : Has (h.push (.cells [slb nb g.nts.length, slb m g.nts.length, s2] 67 .exact)) h.n (.cells [slb nb g.nts.length, slb m g.nts.length, s2] 67 .exact) := Has.push_self _ _
  generalize h.push (.cells [slb nb g.nts.length, slb m g.nts.length, s2] 67 .exact) = h0 at e0 q0 ⊢
  refine (a.ext e0).boxed fun h1 tv nv pv _ q1 a1 e1 => ?_
  have c1 : GC h1 h0.n tv nv pv g := ⟨q1, a1⟩
  rw [fa_ptr, obP_some, c1.ld.2.1, obP_some, c1.len.1, obP_some]
  refine mkS_ok (Nat.le_refl _) (by omega) (by omega) ?_
  rw [← bitsL_lrep]
  have e2 := Ext.push h1 (.cells (bitsL g.toks.length fun _ => false) 4 .exact)
  have v2 : Vec (h1.push (.cells (bitsL g.toks.length fun _ => false) 4 .exact)) h1.n g.toks.length (fun _ => false) := Has.push_self _ _
  have q02 := (q0.ext e1).ext e2
  have hb0 : h.n < h1.n := Nat.lt_of_lt_of_le q0.1 e1.n
  generalize h1.n = b at v2 hb0 ⊢
  generalize h1.push (.cells (bitsL g.toks.length fun _ => false) 4 .exact) = h2 at e2 v2 q02 ⊢
  have e02 : Ext h h2 := (e0.trans e1).trans e2
  clear c1 q1 a1 q0 e0 e1 e2
  suffices loop : ∀ (k i : Nat) h', r.length - i ≤ k → i ≤ r.length → Ext h h' → Has h' h.n (.cells [slb nb g.nts.length, slb m g.nts.length, s2] 67 .exact) → rowN nf (r.take i) = true → Vec h' b g.toks.length (rowF nf P (r.take i)) →
      A40_1 rv (.pointer (some ⟨h.n, 0, none⟩)) (slb b g.toks.length) (.int .i64 (i : Int)) h' Z by
    exact loop _ 0 h2 (Nat.le_refl _) (Nat.zero_le _) e02 q02 rfl (v2.congr fun j _ => rfl)
  intro k
  have done : ∀ h', Ext h h' → rowN nf r = true → Vec h' b g.toks.length (rowF nf P r) → A40_1 rv (.pointer (some ⟨h.n, 0, none⟩)) (slb b g.toks.length) (.int .i64 (r.length : Int)) h' Z := by
    intro h' e hn hv
    apply R40_1
    simp only [(hr.ext e).len, List.length_map, ibin_lss, obP_some, asB_bool, show decide ((r.length : Int) < (r.length : Int)) = false from decide_eq_false (by omega), bP_false]
    have := K h' b e (by omega) hv
    rw [hn] at this; exact this
  induction k with
  | zero =>
    intro i h' hk hi e _ hn hv
    have : i = r.length := by omega
    subst this
    rw [List.take_length] at hn hv
    exact done h' e hn hv
  | succ k ih =>
    intro i h' hk hi e q' hn hv
    by_cases hlt : i < r.length
    · apply R40_1
      have hj : (r.map symCells)[i]? = some (symCells r[i]) := by simp [hlt]
      obtain ⟨b', q'', cc, md, k1, k2, k3, k4, k5, k6⟩ := (hr.ext e).at_ (k := .i64) hj
      have hso := hs _ (List.getElem_mem hlt)
      have hsplit : r = r.take i ++ r[i] :: r.drop (i + 1) := by
        rw [← List.drop_eq_getElem_cons hlt, List.take_append_drop]
      have hF : ∀ t, rowF nf P r t = (rowF nf P (r.take i) t || rowF nf P (r[i] :: r.drop (i + 1)) t) := fun t => by
        conv => lhs; rw [hsplit]
        rw [rowF_append, hn, Bool.true_and]
      have hN : rowN nf r = rowN nf (r[i] :: r.drop (i + 1)) := by
        conv => lhs; rw [hsplit]
        rw [rowN_append, hn, Bool.true_and]
      have htk : r.take (i + 1) = r.take i ++ [r[i]] := List.take_succ_eq_append_getElem hlt
      generalize hse : r[i] = s at *
      simp only [(hr.ext e).len, List.length_map, ibin_lss, obP_some, asB_bool, show decide ((i : Int) < (r.length : Int)) = true from decide_eq_true (by omega), bP_true, k1]
      refine obP_of (ldN_has k3 k4) ?_
      refine al_st (cs := symCells s) rfl rfl rfl fun h3 e3 q3 => ?_
      have p0 := ld1_has q3 (o := 0 + 0) (v := .bool s.tok) rfl
      have p1 := ld1_has q3 (o := 0 + 1) (v := .int .i64 (s.at_ : Int)) rfl
      have hv3 := hv.ext e3
      have e03 := e.trans e3
      rw [fa_ptr, obP_some, p0, obP_some, asB_bool, obP_some]
      cases hst : s.tok with
      | true =>
        obtain ⟨t, ht1, _⟩ := hso.1 hst
        have hat : s.at_ < g.toks.length := (List.getElem?_eq_some_iff.1 ht1).1
        rw [bP_true, fa_ptr, obP_some, p1, obP_some, iaS_slb hat, obP_some]
        refine hv3.st hat fun h4 hv4 f4 => ?_
        have e4 : Ext h h4 := e03.trans' f4 fun x hx => .inr (by omega)
        have := K h4 b e4 (by omega) (hv4.congr fun t _ => by
          rw [hF t, rowF_cons, hst, if_pos rfl, Bool.or_comm, show (t == s.at_) = (s.at_ == t) from Bool.eq_iff_iff.2 ⟨fun h => by simp at h; simp [h], fun h => by simp at h; simp [h]⟩])
        rw [hN, show rowN nf (s :: r.drop (i + 1)) = false from by simp [rowN, hst]] at this
        exact this
      | false =>
        have hat := hso.2 hst
        rw [bP_false]
        have q03 := q'.ext e3
        generalize h'.n = sb at q3 p0 p1 ⊢
        suffices inner : ∀ (w t : Nat) h4, g.toks.length - t ≤ w → t ≤ g.toks.length → Ext h h4 → Has h4 h.n (.cells [slb nb g.nts.length, slb m g.nts.length, s2] 67 .exact) → Has h4 sb (.cells (symCells s) 90 .exact) → Vec h4 b g.toks.length (fun j => rowF nf P (r.take i) j || (decide (j < t) && P s.at_ j)) →
            A40_2 rv (.pointer (some ⟨h.n, 0, none⟩)) (slb b g.toks.length) (.int .i64 (i : Int)) (.pointer (some ⟨sb, 0, none⟩)) (.int .i64 (t : Int)) h4 Z by
          exact inner _ 0 h3 (Nat.le_refl _) (Nat.zero_le _) e03 q03 q3 (hv3.congr fun j _ => by simp)
        intro w
        have done2 : ∀ h4, Ext h h4 → Has h4 h.n (.cells [slb nb g.nts.length, slb m g.nts.length, s2] 67 .exact) → Has h4 sb (.cells (symCells s) 90 .exact) → Vec h4 b g.toks.length (fun j => rowF nf P (r.take i) j || (decide (j < g.toks.length) && P s.at_ j)) →
            A40_2 rv (.pointer (some ⟨h.n, 0, none⟩)) (slb b g.toks.length) (.int .i64 (i : Int)) (.pointer (some ⟨sb, 0, none⟩)) (.int .i64 (g.toks.length : Int)) h4 Z := by
          intro h4 e4 q4 qs hv4
          apply R40_2
          simp only [lenS_sl, ibin_lss, obP_some, asB_bool, show decide ((g.toks.length : Int) < (g.toks.length : Int)) = false from decide_eq_false (by omega), bP_false, fa_ptr, ld1_has q4 (o := 0 + 0) rfl, ld1_has qs (o := 0 + 1) (v := .int .i64 (s.at_ : Int)) rfl, iaS_slb hat, (vn.ext e4).ld hat, bnot_bool]
          cases hnf : nf s.at_ with
          | false =>
            simp only [Bool.not_false, bP_true]
            have := K h4 b e4 (by omega) (hv4.congr fun t ht => by
              rw [hF t, rowF_cons, hst, hnf]; simp [ht])
            rw [hN, show rowN nf (s :: r.drop (i + 1)) = false from by simp [rowN, hst, hnf]] at this
            exact this
          | true =>
            simp only [Bool.not_true, bP_false]
            rw [ibin_inc (by omega), obP_some]
            refine ih (i + 1) h4 (by omega) hlt e4 q4 ?_ ?_
            · rw [htk, rowN_append, hn]; simp [rowN, hst, hnf]
            · refine hv4.congr fun t ht => ?_
              rw [htk, rowF_append, hn, rowF_cons, hst]; simp [ht, rowF]
        clear ih done
        induction w with
        | zero =>
          intro t h4 hw ht4 e4 q4 qs hv4
          have : t = g.toks.length := by omega
          subst this; exact done2 h4 e4 q4 qs hv4
        | succ w ihw =>
          intro t h4 hw ht4 e4 q4 qs hv4
          by_cases htl : t < g.toks.length
          · apply R40_2
            simp only [lenS_sl, ibin_lss, obP_some, asB_bool, show decide ((t : Int) < (g.toks.length : Int)) = true from decide_eq_true (by omega), bP_true, iaS_slb htl, hv4.ld htl, gotB_false]
            have hrest : obP (Go.Det.st 1 h4 (.pointer (some ⟨b, t, none⟩)) (.bool ((rowF nf P (r.take i) t || (decide (t < t) && P s.at_ t)) || P s.at_ t))) (fun h41 => obP (ibin .add (.int .i64 (t : Int)) (Value.int .i64 1)) fun v38_42 => A40_2 rv (.pointer (some ⟨h.n, 0, none⟩)) (slb b g.toks.length) (.int .i64 (i : Int)) (.pointer (some ⟨sb, 0, none⟩)) v38_42 h41 Z) := by
              refine hv4.stv htl fun h5 hv5 f5 => ?_
              rw [ibin_inc (by omega), obP_some]
              have k5 := hv4.ks (n0 := 0) (Nat.zero_le _) f5
              refine ihw (t + 1) h5 (by omega) htl (e4.trans' f5 fun x hx => .inr (by omega)) (q4.ks k5 (by decide) (by decide)) (qs.ks k5 (by decide) (by decide)) (hv5.congr fun j hj => ?_)
              rcases Nat.lt_trichotomy j t with h1 | h1 | h1
              · simp [h1, show j < t + 1 from by omega, show ¬ j = t from by omega]
              · subst h1; simp
              · simp [show ¬ j < t from by omega, show ¬ j < t + 1 from by omega, show ¬ j = t from by omega]
            cases hcur : (rowF nf P (r.take i) t || (decide (t < t) && P s.at_ t)) with
            | true =>
              rw [hcur] at hrest
              simp only [Bool.not_true, sel_false, g1_false, pk_bool, sel_true, obP_some]
              exact hrest
            | false =>
              rw [hcur] at hrest
              simp only [Bool.not_false, g1_true, sel_true, fa_ptr, obP_some, ld1_has q4 (o := 0 + 1) rfl, ld1_has qs (o := 0 + 1) (v := .int .i64 (s.at_ : Int)) rfl, iaS_slb hat, (mt.ext e4).row hat, iaS_slb htl, ((mt.ext e4).vec _ hat).ld htl, pk_bool, sel_false]
              exact hrest
          · have : t = g.toks.length := by omega
            subst this; exact done2 h4 e4 q4 qs hv4
    · have : i = r.length := by omega
      subst this
      rw [List.take_length] at hn hv
      exact done h' e hn hv
end Go.Det
end
/- FirstMore, walked. -/
set_option linter.unusedVariables false
set_option linter.unusedSimpArgs false
set_option maxRecDepth 100000
noncomputable section
namespace Go.Det
open Go.Proofs

/-! ### plain: with more productions nothing is no more -/
section
variable {g g' : Gm} (ht : g.toks = g'.toks) (hs : ∀ p, p ∈ g.prods → p ∈ g'.prods)
include hs in
theorem NullP.more {x : Nat} (h : NullP g x) : NullP g' x := by
  induction h with
  | mk p hp h1 h2 ih => exact .mk p (hs p hp) h1 ih
include hs in
theorem nullF_more {x : Nat} (h : nullF g x = true) : nullF g' x = true := nullF_iff.2 (NullP.more hs (nullF_iff.1 h))
include hs in
theorem FirstP.more {x t : Nat} (h : FirstP g x t) : FirstP g' x t := by
  induction h with
  | tok p hp pre post t e hn => exact .tok p (hs p hp) pre post t e (rowN_mono (fun _ => nullF_more hs) hn)
  | nt p hp pre post y t e hn _ ih => exact .nt p (hs p hp) pre post y t e (rowN_mono (fun _ => nullF_more hs) hn) ih
include hs in
theorem firstF_more {x t : Nat} (h : firstF g x t = true) : firstF g' x t = true := firstF_iff.2 (FirstP.more hs (firstF_iff.1 h))
include ht hs in
theorem FollowP.more {x t : Nat} (h : FollowP g x t) : FollowP g' x t := by
  induction h with
  | eof => rw [ht]; exact .eof
  | next p hp pre post y t e h h' => exact .next p (hs p hp) pre post y t e (ht ▸ h) (rowF_mono (fun _ => nullF_more hs) (fun _ _ _ => firstF_more hs) h')
  | last p hp pre post y t e hn _ ih => exact .last p (hs p hp) pre post y t e (rowN_mono (fun _ => nullF_more hs) hn) ih
include ht hs in
theorem followF_more {x t : Nat} (h : followF g x t = true) : followF g' x t = true := followF_iff.2 (FollowP.more ht hs (followF_iff.1 h))
end
theorem within46_ok {h : DH} {b c n : Nat} {p q : Nat → Bool} {Z : Value → DH → Prop} (a : Vec h b n p) (a' : Vec h c n q) (hn : n < 1000000) (hpq : ∀ j, j < n → p j = true → q j = true) (K : Z (.bool true) h) : CP Try.prog 46 [slb b n, slb c n] h Z := by
  apply R46
  simp only [lenS_sl, ibin_neq, obP_some, decide_true, Bool.not_true, asB_bool, bP_false]
  have step : ∀ (m i : Nat), n - i ≤ m → i ≤ n → A46_1 (slb b n) (slb c n) (.int .i64 (i : Int)) h Z := by
    intro m
    have done : A46_1 (slb b n) (slb c n) (.int .i64 (n : Int)) h Z := by
      apply R46_1
      simp only [lenS_sl, ibin_lss, obP_some, asB_bool, show decide ((n : Int) < (n : Int)) = false from decide_eq_false (by omega), bP_false]
      exact K
    induction m with
    | zero =>
      intro i hm hi
      have : i = n := by omega
      subst this; exact done
    | succ m ih =>
      intro i hm hi
      by_cases hlt : i < n
      · apply R46_1
        simp only [lenS_sl, ibin_lss, obP_some, asB_bool, show decide ((i : Int) < (n : Int)) = true from decide_eq_true (by omega), bP_true, iaS_slb hlt, a.ld hlt, gotB_true]
        have hj := hpq i hlt
        cases hp : p i with
        | false =>
          simp only [g1_false, pk_bool, sel_false, obP_some, asB_bool, bP_false]
          rw [ibin_inc (by omega), obP_some]
          exact ih (i + 1) (by omega) hlt
        | true =>
          simp only [g1_true, sel_true, iaS_slb hlt, a'.ld hlt, hj hp, bnot_bool, Bool.not_true, pk_bool, obP_some, asB_bool, bP_false]
          rw [ibin_inc (by omega), obP_some]
          exact ih (i + 1) (by omega) hlt
      · have : i = n := by omega
        subst this; exact done
  exact step _ 0 (Nat.le_refl _) (Nat.zero_le _)
/-- The comparison. -/
theorem more3 {h : DH} {g g' : Gm} {a x mb mc my mz : Nat} {bb bc bby bbz : Nat → Nat} (hn : g'.nts.length = g.nts.length) (htk : g'.toks = g.toks) (hs : ∀ p, p ∈ g.prods → p ∈ g'.prods) (h8 : g.nts.length ≤ 8) (t8 : g.toks.length ≤ 8) (va : Vec h a g.nts.length (nullF g)) (vb : Mat h mb g.nts.length g.toks.length bb (firstF g)) (vc : Mat h mc g.nts.length (g.toks.length + 1) bc (followF g))
    (vx : Vec h x g.nts.length (nullF g')) (vy : Mat h my g.nts.length g.toks.length bby (firstF g')) (vz : Mat h mz g.nts.length (g.toks.length + 1) bbz (followF g')) (m : Nat) :
    ∀ i, g.nts.length - i ≤ m → i ≤ g.nts.length → A11_3 (slb a g.nts.length) (slb mb g.nts.length) (slb mc g.nts.length) (slb x g.nts.length) (slb my g.nts.length) (slb mz g.nts.length) (.int .i64 (i : Int)) h fun v _ => v = .bool true := by
  have done : A11_3 (slb a g.nts.length) (slb mb g.nts.length) (slb mc g.nts.length) (slb x g.nts.length) (slb my g.nts.length) (slb mz g.nts.length) (.int .i64 (g.nts.length : Int)) h fun v _ => v = .bool true := by
    apply R11_3
    simp only [lenS_sl, ibin_lss, obP_some, asB_bool, show decide ((g.nts.length : Int) < (g.nts.length : Int)) = false from decide_eq_false (by omega), bP_false]
  induction m with
  | zero =>
    intro i hm hi
    have : i = g.nts.length := by omega
    subst this; exact done
  | succ m ih =>
    intro i hm hi
    by_cases hlt : i < g.nts.length
    · apply R11_3
      simp only [lenS_sl, ibin_lss, obP_some, asB_bool, show decide ((i : Int) < (g.nts.length : Int)) = true from decide_eq_true (by omega), bP_true, iaS_slb hlt, va.ld hlt, gotB_true]
      have rest : obP (gotB (.bool false) false) (fun w148 => g1 w148 (iaS 1 (sel w148 (slb mb g.nts.length) undef) (sel w148 (.int .i64 (i : Int)) undef)) fun v155_149 => g1 w148 (ld1 h v155_149) fun v156_150 => g1 w148 (iaS 1 (sel w148 (slb my g.nts.length) undef) (sel w148 (.int .i64 (i : Int)) undef)) fun v159_151 => g1 w148 (ld1 h v159_151) fun v160_152 => g4 Try.prog w148 46 [v156_150, v160_152] h fun v161_153 h154 => g1 w148 (bnot v161_153) fun v162_155 => obP (pk (.bool false) (Value.bool true) v162_155) fun v163_156 => obP (gotB v163_156 false) fun w157 => g1 w157 (iaS 1 (sel w157 (slb mc g.nts.length) undef) (sel w157 (.int .i64 (i : Int)) undef)) fun v167_158 => g1 w157 (ld1 h154 v167_158) fun v168_159 => g1 w157 (iaS 1 (sel w157 (slb mz g.nts.length) undef) (sel w157 (.int .i64 (i : Int)) undef)) fun v171_160 => g1 w157 (ld1 h154 v171_160) fun v172_161 => g4 Try.prog w157 46 [v168_159, v172_161] h154 fun v173_162 h163 => g1 w157 (bnot v173_162) fun v174_164 => obP (pk v163_156 (Value.bool true) v174_164) fun v175_165 => obP (asB v175_165) fun b166 => bP b166 ((fun v (_ : DH) => v = Value.bool true) (Value.bool false) h163) (obP (ibin .add (.int .i64 (i : Int)) (Value.int .i64 1)) fun v140_167 => A11_3 (slb a g.nts.length) (slb mb g.nts.length) (slb mc g.nts.length) (slb x g.nts.length) (slb my g.nts.length) (slb mz g.nts.length) v140_167 h163 fun v _ => v = .bool true)) := by
        simp only [gotB_false, Bool.not_false, obP_some, g1_true, sel_true, iaS_slb hlt, vb.row hlt, vy.row hlt, g4_true]
        refine within46_ok (vb.vec i hlt) (vy.vec i hlt) (by omega) (fun j _ hp => firstF_more hs hp) ?_
        simp only [bnot_bool, Bool.not_true, obP_some, pk_bool, sel_false, gotB_false, Bool.not_false, g1_true, sel_true, iaS_slb hlt, vc.row hlt, vz.row hlt, g4_true]
        refine within46_ok (vc.vec i hlt) (vz.vec i hlt) (by omega) (fun j _ hp => followF_more htk.symm hs hp) ?_
        simp only [bnot_bool, Bool.not_true, obP_some, pk_bool, sel_false, asB_bool, bP_false]
        rw [ibin_inc (by omega), obP_some]
        exact ih (i + 1) (by omega) hlt
      cases hp : nullF g i with
      | false =>
        simp only [g1_false, pk_bool, sel_false, obP_some]
        exact rest
      | true =>
        simp only [g1_true, sel_true, iaS_slb hlt, vx.ld hlt, nullF_more hs hp, bnot_bool, Bool.not_true, pk_bool, obP_some]
        exact rest
    · have : i = g.nts.length := by omega
      subst this; exact done
end Go.Det
end
/- FirstMore, walked: the end, the whole. -/
set_option linter.unusedVariables false
set_option linter.unusedSimpArgs false
set_option maxRecDepth 100000
noncomputable section
namespace Go.Det
open Go.Proofs

theorem GC.out {o ts : List Nat} {h h' : DH} {gb : Nat} {tv nv pv : Value} {g : Gm} (a : GC h gb tv nv pv g) (f : KS h.n o ts h h') (h1 : ∀ x, x ∈ [28, 99, 101, 37, 90, 9] → x ∉ o) : GC h' gb tv nv pv g := ⟨a.1.out f (h1 28 (by simp)), a.2.out f fun x hx => h1 x (List.mem_cons_of_mem _ hx)⟩
theorem pr_facts {h : DH} : ∀ {pr : List (List Value)} {ps : List Pd}, Rows2 (PdRow h) pr ps → (∀ r, r ∈ pr → r.length = 3) ∧ lall okCell pr.flatten = true := by
  intro pr ps a
  rw [lall_eq, List.all_eq_true]
  have key : ∀ r, r ∈ pr → r.length = 3 ∧ ∀ v, v ∈ r → okCell v = true := by
    intro r hr
    obtain ⟨j, hj⟩ := List.getElem?_of_mem hr
    have hjl : j < ps.length := by have := (List.getElem?_eq_some_iff.1 hj).1; have := a.len; omega
    obtain ⟨r', hj', rv, uv, rfl, h1, h2⟩ := a.get (List.getElem?_eq_getElem hjl)
    rw [hj] at hj'
    simp only [Option.some.injEq] at hj'
    subst hj'
    refine ⟨rfl, fun v hv => ?_⟩
    simp only [List.mem_cons, List.not_mem_nil, or_false] at hv
    rcases hv with rfl | rfl | rfl
    · rfl
    · exact (isSl_facts h1.isSl).1
    · exact (isSl_facts h2).1
  refine ⟨fun r hr => (key r hr).1, fun v hv => ?_⟩
  obtain ⟨r, hr, hv⟩ := List.mem_flatten.1 hv
  exact (key r hr).2 v hv
section
variable {H0 : DH} {g : Gm} {gb pb db left : Nat} {tv nv pv lv : Value} {l : List Nat}
theorem more2 {h : DH} {right : List Sy} (hm : Made g) (c0 : GC H0 gb tv nv pv g) (d : DS H0 h pb db lv l left g.toks.length g.nts.length right) (hr : right.length ≤ 5) : A11_2 (.pointer (some ⟨gb, 0, none⟩)) (.pointer (some ⟨db, 0, none⟩)) h fun v _ => v = .bool true := by
  apply R11_2
  obtain ⟨⟨n, hp⟩, f, ge, ⟨rv, d1, d2⟩, dok, hl⟩ := d
  have c := c0.out f (by decide)
  obtain ⟨tv', nv', pv', ev, o1, o2, o3⟩ := gmBox c.2
  simp only [Value.agg.injEq, Array.mk.injEq, List.cons.injEq, and_true] at ev
  obtain ⟨rfl, rfl, rfl⟩ := ev
  have ok := gmOk_made hm
  have hpl := hm.p
  have hdb : db < h.n := d1.1
  have hgb : gb < h.n := c.1.1
  rw [c.ld.2.2.2.2, obP_some]
  refine al_st (cs := [tv, nv, pv]) rfl rfl (by show sel (okCell tv) (sel (okCell nv) (sel (okCell pv) true false) false) false = true; rw [o1, o2, o3]; rfl) fun h1 e1 q1 => ?_
  have c1 := c.ext e1
  refine bldSl_ok (cs := []) rfl rfl rfl ?_
  have e2 := Ext.push h1 (.cells [] 37 .exact)
  have g2 : Grow (h1.push (.cells [] 37 .exact)) (.slice (some ⟨h1.n, 0, none⟩) 0 0) 37 3 [] h1.n := .inr ⟨h1.n, .exact, rfl, Nat.le_refl _, Has.push_self _ _, rfl, fun r hr => by cases hr⟩
  have hn2 : h1.n ≤ (h1.push (.cells [] 37 .exact)).n := e2.n
  have hdb1 : db < h1.n := Nat.lt_of_lt_of_le hdb e1.n
  generalize hsl2 : (Value.slice (some ⟨h1.n, 0, none⟩) 0 0) = s2 at g2 ⊢
  generalize h1.push (.cells [] 37 .exact) = h2 at e2 g2 hn2 ⊢
  have c2 := c1.ext e2
  rw [fa_ptr, obP_some, c2.ld.2.2.2.1, obP_some]
  obtain ⟨_, _, pr, p3, p3'⟩ := c2.2.parts
  have hprl : pr.length = g.prods.length := p3'.len
  obtain ⟨pf1, pf2⟩ := pr_facts p3'
  refine appS_grow g2 hn2 p3.appended pf1 pf2 (room_ok (by simp; omega) (by simp; omega) (by omega)) fun s3 h3 g3 f3 hb3 => ?_
  have k3 : KS h1.n [] [37] h2 h3 := KS.grow g2 f3 (by simp)
  have d13 := ((d1.ext e1).ext e2).old k3 (by decide) hdb1
  rw [List.nil_append] at g3
  refine obP_of (ldN_has (l := [.int .i64 (left : Int), rv, .slice none 0 0]) d13 rfl) ?_
  have srv := isSl_facts d2.rows.isSl
  refine app1 g3 (Nat.le_trans hn2 k3.n) rfl rfl rfl rfl rfl (by show sel true (sel (okCell rv) true false) false = true; rw [srv.1]; rfl) (by decide) (room_ok (by omega) (by omega) (by omega)) fun s4 h4 g4 f4 => ?_
  have k4 : KS h1.n [] [37] h3 h4 := KS.grow g3 f4 (by simp)
  have k24 := k3.trans k4
  have q4 := (q1.ext e2).ks k24 (by decide) (by decide)
  have ss4 := isSl_facts g4.rows.isSl
  rw [fa_ptr, obP_some]
  refine st_ok (c' := [tv, nv, s4]) q4 rfl ss4.2.1 ss4.2.2.1 (by rw [ss4.2.2.2]; rfl) (by simp) (by rw [ss4.2.2.2]; show sel (okCell s4) true false = true; rw [ss4.1]; rfl) (by rw [ss4.2.2.2]; rfl) ?_
  have k5 : KS h.n [] [28, 37] h4 (h4.upd h.n (.cells [tv, nv, s4] 28 .exact)) := KS.upd _ q4 (Nat.le_refl _) (by simp)
  have k5' : KS h.n [] [28] h4 (h4.upd h.n (.cells [tv, nv, s4] 28 .exact)) := KS.upd _ q4 (Nat.le_refl _) (by simp)
  have q5 : Has (h4.upd h.n (.cells [tv, nv, s4] 28 .exact)) h.n (.cells [tv, nv, s4] 28 .exact) := q4.upd_self _
  generalize h4.upd h.n (.cells [tv, nv, s4] 28 .exact) = h5 at k5 k5' q5 ⊢
  have e5 : Ext h h5 := (((KS.ext (e1.trans e2) : KS h.n [] [28, 37] h h2).trans ((k24.from e1.n).mono (by simp) (by simp))).trans k5).toExt (Nat.le_refl _)
  have c5 := c.ext e5
  have g5 := g4.ks k5' (by decide) (by decide)
  have d25 := d2.rows.ext e5
  have cg : GC h5 h.n tv nv s4 ⟨g.toks, g.nts, g.prods ++ [⟨left, right⟩]⟩ := by
    obtain ⟨t1, ⟨nr, t2, t2'⟩, pr5, t3, t3'⟩ := c5.2.parts
    refine ⟨q5, tv, nv, s4, rfl, t1, ⟨nr, t2, t2'⟩, pr ++ [[.int .i64 (left : Int), rv, .slice none 0 0]], g5.rows, ?_⟩
    have : Rows2 (PdRow h5) pr g.prods := p3'.mono fun a b hab => (hab.ks k24 (by decide) (by decide)).ks k5' (by decide) (by decide)
    exact this.snoc ⟨rv, _, rfl, d25, rfl⟩
  have ok' : GmOk ⟨g.toks, g.nts, g.prods ++ [⟨left, right⟩]⟩ := gmOk_of _ hm ⟨by rw [List.length_append]; simp, by rw [List.length_append]; simp; omega⟩ fun p hp => by
    rcases List.mem_append.1 hp with hp | hp
    · exact ⟨(hpl.2.2 p hp).1, by have := (hpl.2.2 p hp).2.1; omega, (hpl.2.2 p hp).2.2⟩
    · simp at hp; subst hp; exact ⟨hl, hr, dok⟩
  refine ⟨(either_wr g2 hdb1).2, ?_⟩
  generalize h.n = ng at q5 cg
  clear q1 q4 g2 g3 g4 g5 k3 k4 k5 k5' k24 e1 e2 f3 f4 hb3 c1 c2 p3 p3' d13
  -- the sets of the one
  rw [c5.ld.2.2.2.2, obP_some]
  refine nullable_ok ok (GmAt.reset c5.2) fun h6 na e6 _ va => ?_
  have E6 : Ext h5 (lowered h6 h5.low) := Kp.lowered e6
  have va6 : Vec (lowered h6 h5.low) na g.nts.length (nullF g) := va
  have ft6 := fun l => either_ext (l := l) e6
  have c6 := c5.ext E6
  have cg6 := cg.ext E6
  generalize lowered h6 h5.low = H6 at E6 va6 c6 cg6 ⊢
  rw [c6.ld.2.2.2.2, obP_some]
  refine first_ok ok (GmAt.reset c6.2) fun h7 mb bb e7 _ _ vb => ?_
  have E7 : Ext H6 (lowered h7 H6.low) := Kp.lowered e7
  have vb7 : Mat (lowered h7 H6.low) mb g.nts.length g.toks.length bb (firstF g) := ⟨vb.hd, vb.vec, vb.inj⟩
  have ft7 := fun l => either_ext (l := l) e7
  have c7 := c6.ext E7
  have cg7 := cg6.ext E7
  have va7 := va6.ext E7
  generalize lowered h7 H6.low = H7 at E7 vb7 c7 cg7 va7 ⊢
  rw [c7.ld.2.2.2.2, obP_some]
  refine follow_ok ok (GmAt.reset c7.2) fun h8 mc bc e8 _ _ vc => ?_
  have E8 : Ext H7 (lowered h8 H7.low) := Kp.lowered e8
  have vc8 : Mat (lowered h8 H7.low) mc g.nts.length (g.toks.length + 1) bc (followF g) := ⟨vc.hd, vc.vec, vc.inj⟩
  have c8 := c7.ext E8
  have cg8 := cg7.ext E8
  have va8 := va7.ext E8
  have vb8 := vb7.ext E8
  generalize lowered h8 H7.low = H8 at E8 vc8 c8 cg8 va8 vb8 ⊢
  refine ⟨⟨(ft6 _).1, (ft6 _).1, (ft7 _).1⟩, ?_⟩
  -- of the other
  rw [cg8.ld.2.2.2.2, obP_some]
  refine nullable_ok ok' (GmAt.reset cg8.2) fun h9 x e9 _ vx => ?_
  have E9 : Ext H8 (lowered h9 H8.low) := Kp.lowered e9
  have vx9 : Vec (lowered h9 H8.low) x g.nts.length (nullF ⟨g.toks, g.nts, g.prods ++ [⟨left, right⟩]⟩) := vx
  have ft9 := fun l => either_ext (l := l) e9
  have c9 := c8.ext E9
  have cg9 := cg8.ext E9
  have va9 := va8.ext E9
  have vb9 := vb8.ext E9
  have vc9 := vc8.ext E9
  generalize lowered h9 H8.low = H9 at E9 vx9 c9 cg9 va9 vb9 vc9 ⊢
  rw [cg9.ld.2.2.2.2, obP_some]
  refine first_ok ok' (GmAt.reset cg9.2) fun h10 my by' e10 _ _ vy => ?_
  have E10 : Ext H9 (lowered h10 H9.low) := Kp.lowered e10
  have vy10 : Mat (lowered h10 H9.low) my g.nts.length g.toks.length by' (firstF ⟨g.toks, g.nts, g.prods ++ [⟨left, right⟩]⟩) := ⟨vy.hd, vy.vec, vy.inj⟩
  have ft10 := fun l => either_ext (l := l) e10
  have c10 := c9.ext E10
  have cg10 := cg9.ext E10
  have va10 := va9.ext E10
  have vb10 := vb9.ext E10
  have vc10 := vc9.ext E10
  have vx10 := vx9.ext E10
  generalize lowered h10 H9.low = H10 at E10 vy10 c10 cg10 va10 vb10 vc10 vx10 ⊢
  rw [cg10.ld.2.2.2.2, obP_some]
  refine follow_ok ok' (GmAt.reset cg10.2) fun h11 mz bz e11 _ _ vz => ?_
  have E11 : Ext H10 (lowered h11 H10.low) := Kp.lowered e11
  have vz11 : Mat (lowered h11 H10.low) mz g.nts.length (g.toks.length + 1) bz (followF ⟨g.toks, g.nts, g.prods ++ [⟨left, right⟩]⟩) := ⟨vz.hd, vz.vec, vz.inj⟩
  have c11 := c10.ext E11
  have va11 := va10.ext E11
  have vb11 := vb10.ext E11
  have vc11 := vc10.ext E11
  have vx11 := vx10.ext E11
  have vy11 := vy10.ext E11
  generalize lowered h11 H10.low = H11 at E11 vz11 c11 va11 vb11 vc11 vx11 vy11 ⊢
  refine ⟨⟨(ft9 _).1, (ft9 _).1, (ft10 _).1⟩, ?_⟩
  simp only [lenS_sl, obP_some, fa_ptr, c11.ld.2.2.1, c11.len.2.1, ibin_neq, decide_true, Bool.not_true, gotB_false, Bool.not_false, g1_true, sel_true, pk_bool, sel_false, asB_bool, bP_false]
  exact more3 (g := g) (g' := ⟨g.toks, g.nts, g.prods ++ [⟨left, right⟩]⟩) rfl rfl (fun p hp => List.mem_append_left _ hp) ok.n.2 ok.t.2 va11 vb11 vc11 vx11 vy11 vz11 _ 0 (Nat.le_refl _) (Nat.zero_le _)
theorem more_sym {h : DH} {right : List Sy} (d : DS H0 h pb db lv l left g.toks.length g.nts.length right) (hr : right.length ≤ 5) {s : Sy} (hs : SyOk g.toks.length g.nts.length s) {F : DH → Prop} (K : ∀ h', DS H0 h' pb db lv l left g.toks.length g.nts.length (right ++ [s]) → F h') {rv : Value} (hrv : ld1 h (.pointer (some ⟨db, 0 + 1, none⟩)) = some rv) :
    oh (bldSl 90 2 1 [(Value.bool false), (Value.int .i64 0)] [((0, 2), .agg ⟨symCells s⟩)] h) fun x h25 => oh (appS 90 16 2 h25 rv x) fun v' h27 => obP (st 1 h27 (.pointer (some ⟨db, 0 + 1, none⟩)) v') fun h29 => F h29 := by
  obtain ⟨⟨n, hp⟩, f, ge, ⟨rv', d1, d2⟩, ok, hl⟩ := d
  rw [ld1_has d1 (o := 0 + 1) rfl] at hrv
  simp only [Option.some.injEq] at hrv
  subst hrv
  refine field_push (k := 1) (cs := symCells s) d1 rfl rfl d2 f.n (by decide) rfl rfl rfl rfl rfl rfl (by decide) (room_ok (by simp; omega) (by simp; omega) (by omega)) fun v' h4 q4 q5 f4 => ?_
  have fk := Kp.ksAt d1 ge d2 f4
  refine K h4 ⟨⟨n, hp.ks fk (by decide) (by decide) (by decide) (by decide)⟩, f.trans (fk.mono (by simp) (by simp)), ge, ⟨v', q4, ?_⟩, ?_, hl⟩
  · rw [List.map_append]; exact q5
  · intro x hx
    rcases List.mem_append.1 hx with h | h
    · exact ok x h
    · simp at h; subst h; exact hs
theorem DS.numL {h : DH} {right : List Sy} (a : DS H0 h pb db lv l left g.toks.length g.nts.length right) {m : Nat} (hm : 0 < m) {F : Value → DH → Prop} (K : ∀ (r : Nat) h', r < m → DS H0 (lowered h' h.low) pb db lv l left g.toks.length g.nts.length right → (∀ w, either (callFoot h h') ⟨some (blockOf (.pointer (some ⟨db, w, none⟩))), .none⟩ = true ∧ either ⟨some (blockOf (.pointer (some ⟨db, w, none⟩))), .none⟩ (callFoot h h') = true) → (∀ rv, ld1 h (.pointer (some ⟨db, 0 + 1, none⟩)) = some rv → ld1 (lowered h' h.low) (.pointer (some ⟨db, 0 + 1, none⟩)) = some rv) → F (.int .i64 (r : Int)) h') : CP Try.prog 45 [.pointer (some ⟨pb, 0, none⟩), .int .i64 (m : Int)] (reset h) F := by
  obtain ⟨⟨n, hp⟩, f, ge, ⟨rv, d1, d2⟩, ok, hl⟩ := a
  have hp' : PK (reset h) pb lv l n := hp
  refine num_ok hp' hm fun r n' h' hr hp2 f' => ?_
  have f2 : KS h.n [97] [] h (lowered h' h.low) := KS.lowered f'
  have hp2' : PK (lowered h' h.low) pb lv l n' := hp2
  have q2 := d1.ks f2 (by decide) (by simp)
  refine K r h' hr ⟨⟨n', hp2'⟩, f.trans ((f2.from f.n).mono (by simp) (by simp)), ge, ⟨rv, q2, d2.ks f2 (by decide) (by simp)⟩, ok, hl⟩ (fun w => foot_rd fun b hb hlt => ?_) fun x hx => ?_
  · simp [blockOf] at hb
    subst hb
    exact q2.2.trans d1.2.symm
  · rw [ld1_has d1 (o := 0 + 1) rfl] at hx
    rw [ld1_has q2 (o := 0 + 1) rfl]; exact hx
theorem more1 (hm : Made g) (c0 : GC H0 gb tv nv pv g) (k : Nat) : ∀ right h, k + right.length ≤ 2 → DS H0 h pb db lv l left g.toks.length g.nts.length right → A11_1 (.pointer (some ⟨gb, 0, none⟩)) (.pointer (some ⟨pb, 0, none⟩)) (.pointer (some ⟨db, 0, none⟩)) (.int .i64 (k : Int)) h fun v _ => v = .bool true := by
  induction k with
  | zero =>
    intro right h hr d
    apply R11_1
    simp only [ibin_gtr, obP_some, asB_bool, show decide ((0 : Int) < ((0 : Nat) : Int)) = false from rfl, bP_false]
    refine d.num (m := 2) (by omega) fun r h1 hr1 d1 _ => ?_
    rw [ibin_eql, obP_some, asB_bool, obP_some]
    by_cases h0 : (r : Int) = 0
    · rw [decide_eq_true h0, bP_true]
      have c1 := c0.out d1.f (by decide)
      obtain ⟨rv, hd1, _⟩ := d1.d
      have hrv := ld1_has hd1 (o := 0 + 1) rfl
      have htk : 0 < g.toks.length := by obtain ⟨k, k0, k3, hk⟩ := hm.t; rw [hk]; simpa using k0
      rw [fa_ptr, obP_some, hrv, obP_some, fa_ptr, obP_some, c1.ld.2.1, obP_some, c1.len.1, obP_some]
      refine d1.numL htk fun r h2 hr d2 ft hld => ?_
      refine obP_of (a := .agg ⟨symCells ⟨true, r⟩⟩) rfl ?_
      refine more_sym d2 (by omega) (s := ⟨true, r⟩) ⟨fun _ => hr, fun h => by cases h⟩ (fun h3 d3 => ⟨(ft _).2, ?_⟩) (hld _ hrv)
      exact more2 hm c0 d3 (by rw [List.length_append]; simp; omega)
    · rw [decide_eq_false h0, bP_false]
      exact more2 hm c0 d1 (by omega)
  | succ k ih =>
    intro right h hr d
    apply R11_1
    simp only [ibin_gtr, obP_some, asB_bool, show decide ((0 : Int) < ((k + 1 : Nat) : Int)) = true from decide_eq_true (by omega), bP_true]
    have c1 := c0.out d.f (by decide)
    obtain ⟨rv, hd1, _⟩ := d.d
    have hrv := ld1_has hd1 (o := 0 + 1) rfl
    rw [fa_ptr, obP_some, hrv, obP_some, fa_ptr, obP_some, c1.ld.2.2.1, obP_some, c1.len.2.1, obP_some]
    refine d.numL hm.n.1 fun r h2 hr' d2 ft hld => ?_
    refine obP_of (a := .agg ⟨symCells ⟨false, r⟩⟩) rfl ?_
    refine more_sym d2 (by omega) (s := ⟨false, r⟩) ⟨(fun h => by cases h), fun _ => hr'⟩ (fun h3 d3 => ⟨(ft _).2, ?_⟩) (hld _ hrv)
    rw [ibin_dec (by omega), obP_some]
    exact ih _ h3 (by rw [List.length_append]; simp; omega) d3
end
theorem firstMore_walk {h : DH} {lv lw : Value} {l l' : List Nat} (hb : CP Try.prog 31 [] h fun v h' => v = .bool true ∧ Ext h h') (ra : RowsAt h lv 5 1 (byteRows l)) (hl : ∀ b, b ∈ l → b < 256) (rb : RowsAt h lw 5 1 (byteRows l')) (hl' : ∀ b, b ∈ l' → b < 256) : CP Try.prog 11 [lv, lw] h fun v _ => v = .bool true := by
  apply R11
  refine hb.mono ?_
  rintro v h2 ⟨rfl, e⟩
  have a2 := ra.ext e
  have b2 := rb.ext e
  have hlen : (byteRows l).length = l.length := by simp [byteRows]
  have hlen' : (byteRows l').length = l'.length := by simp [byteRows]
  simp only [bnot_bool, obP_some, asB_bool, Bool.not_true, bP_false, a2.len, hlen, ibin_gtr, gotB_false]
  have hbig : (decide ((150 : Int) < (l.length : Int)) = true ∨ decide ((10 : Int) < (l'.length : Int)) = true) ∨ (l.length ≤ 150 ∧ l'.length ≤ 10) := by
    by_cases h1 : 150 < l.length
    · exact .inl (.inl (decide_eq_true (by omega)))
    · by_cases h2 : 10 < l'.length
      · exact .inl (.inr (decide_eq_true (by omega)))
      · exact .inr ⟨by omega, by omega⟩
  cases h150 : decide ((150 : Int) < (l.length : Int)) with
  | true =>
    simp only [Bool.not_true, g1_false, pk_bool, sel_true, obP_some, asB_bool, bP_true]
  | false =>
    simp only [Bool.not_false, g1_true, sel_true, b2.len, hlen', ibin_gtr, obP_some, pk_bool, sel_false, asB_bool]
    cases h10 : decide ((10 : Int) < (l'.length : Int)) with
    | true => exact trivial
    | false =>
      have h150 := of_decide_eq_false h150
      have h10 := of_decide_eq_false h10
      rw [bP_false]
      refine made_ok a2 (by omega) hl fun h3 hp e3 => ?_
      refine grammar_ok hp fun v g n' h4 ga hm hp' ks => ?_
      obtain ⟨tv, nv, pv, rfl, o1, o2, o3⟩ := gmBox ga
      have ok := gmOk_made hm
      have b4 : RowsAt h4 lw 5 1 (byteRows l') := (b2.ext e3).ks ks (by decide) (by simp)
      refine al_st (cs := [tv, nv, pv]) rfl rfl (by show sel (okCell tv) (sel (okCell nv) (sel (okCell pv) true false) false) false = true; rw [o1, o2, o3]; rfl) fun h5 e5 q5 => ?_
      have c5 : GC h5 h4.n tv nv pv g := ⟨q5, ga.ext e5⟩
      generalize h4.n = gb at q5 c5 ⊢
      have hpl := hm.p
      rw [fa_ptr, obP_some, c5.ld.2.2.2.1, obP_some, c5.len.2.2, obP_some, ibin_geq, obP_some, show decide ((16 : Int) ≤ (g.prods.length : Int)) = false from decide_eq_false (by omega), asB_bool, obP_some, bP_false]
      refine made_ok (b4.ext e5) (by omega) hl' fun h6 hp6 e6 => ?_
      have c6 := c5.ext e6
      rw [fa_ptr, obP_some, c6.ld.2.2.1, obP_some, c6.len.2.1, obP_some]
      refine num_ok hp6 hm.n.1 fun left n7 h7 hleft hp7 f7 => ?_
      have k7 : KS h6.n [97] [37, 90] h6 h7 := f7.mono (by simp) (by simp)
      refine obP_of (a := .agg ⟨[.int .i64 (left : Int), .slice none 0 0, .slice none 0 0]⟩) rfl ?_
      refine al_st (cs := [.int .i64 (left : Int), .slice none 0 0, .slice none 0 0]) rfl rfl rfl fun h8 e8 q8 => ?_
      have d8 : DS h6 h8 h5.n h7.n lw l' left g.toks.length g.nts.length [] := ⟨⟨n7, hp7.ext e8⟩, k7.trans (KS.ext e8), k7.n, ⟨_, q8, Grow.nil _ _ _ _⟩, (fun s hs => by cases hs), hleft⟩
      refine d8.num (m := 3) (by omega) fun k h9 hk d9 _ => ?_
      exact more1 hm c6 k [] h9 (by simp; omega) d9
theorem firstMore_go {h : DH} {lv lw : Value} {l l' : List Int} (hb : CP Try.prog 31 [] h fun v h' => v = .bool true ∧ Ext h h') (ra : RowsAt h lv 5 1 (numRows .u8 l)) (hl : ∀ z, z ∈ l → (Lit.int .u8 z).wf = true) (rb : RowsAt h lw 5 1 (numRows .u8 l')) (hl' : ∀ z, z ∈ l' → (Lit.int .u8 z).wf = true) : CP Try.prog 11 [lv, lw] h fun v _ => v = .bool true := by
  rw [(bytes_of hl).1] at ra
  rw [(bytes_of hl').1] at rb
  exact firstMore_walk hb ra (bytes_of hl).2 rb (bytes_of hl').2
end Go.Det
end
/- lemmataref11: behind. -/
set_option linter.unusedVariables false
set_option linter.unusedSimpArgs false
set_option maxRecDepth 100000
noncomputable section
namespace Go.Det
open Go.Proofs

theorem Mat.kp1 {h h' : DH} {m k w x n : Nat} {bs : Nat → Nat} {P : Nat → Nat → Bool} {p : Nat → Bool} (a : Mat h m k w bs P) (v : Vec h x n p) (f : Kp h h' (· = x)) (hne : ∀ i, i < k → bs i ≠ x) : Mat h' m k w bs P := by
  obtain ⟨md, q⟩ := a.hd
  refine ⟨⟨md, q.kp f ?_⟩, fun i hi => (a.vec i hi).kp f (hne i hi), a.inj⟩
  intro hm
  rw [← hm] at v
  have := q.inj v
  simp at this
/-- The three sets. -/
structure SS (h : DH) (g : Gm) (nb mf mo : Nat) (bf bo : Nat → Nat) (n : Nat → Bool) (f o : Nat → Nat → Bool) : Prop where
  vn : Vec h nb g.nts.length n
  mf : Mat h mf g.nts.length g.toks.length bf f
  mo : Mat h mo g.nts.length (g.toks.length + 1) bo o
  d1 : ∀ i, i < g.nts.length → bf i ≠ nb
  d2 : ∀ i, i < g.nts.length → bo i ≠ nb
  d3 : ∀ i j, i < g.nts.length → j < g.nts.length → bf i ≠ bo j
section
variable {h h' : DH} {g : Gm} {nb mf mo : Nat} {bf bo : Nat → Nat} {n : Nat → Bool} {f o : Nat → Nat → Bool}
theorem SS.ext (a : SS h g nb mf mo bf bo n f o) (e : Ext h h') : SS h' g nb mf mo bf bo n f o := ⟨a.vn.ext e, a.mf.ext e, a.mo.ext e, a.d1, a.d2, a.d3⟩
theorem SS.updN {n' : Nat → Bool} (a : SS h g nb mf mo bf bo n f o) (k : Kp h h' (· = nb)) (v : Vec h' nb g.nts.length n') : SS h' g nb mf mo bf bo n' f o := ⟨v, a.mf.kp1 a.vn k a.d1, a.mo.kp1 a.vn k a.d2, a.d1, a.d2, a.d3⟩
theorem SS.updF {i : Nat} {p : Nat → Bool} (a : SS h g nb mf mo bf bo n f o) (hi : i < g.nts.length) (k : Kp h h' (· = bf i)) (v : Vec h' (bf i) g.toks.length p) : SS h' g nb mf mo bf bo n (fun x => if x = i then p else f x) o :=
  ⟨a.vn.kp k fun h => a.d1 i hi h.symm, a.mf.upd hi k v, a.mo.kp1 (a.mf.vec i hi) k fun j hj h => a.d3 i j hi hj h.symm, a.d1, a.d2, a.d3⟩
theorem SS.updO {i : Nat} {p : Nat → Bool} (a : SS h g nb mf mo bf bo n f o) (hi : i < g.nts.length) (k : Kp h h' (· = bo i)) (v : Vec h' (bo i) (g.toks.length + 1) p) : SS h' g nb mf mo bf bo n f (fun x => if x = i then p else o x) :=
  ⟨a.vn.kp k fun h => a.d2 i hi h.symm, a.mf.kp1 (a.mo.vec i hi) k fun j hj h => a.d3 j i hj hi h, a.mo.upd hi k v, a.d1, a.d2, a.d3⟩
end
def behindQ (g : Gm) (n : Nat → Bool) (f o : Nat → Nat → Bool) (post : List Sy) (left j : Nat) : Bool := (decide (j < g.toks.length) && rowF n f post j) || (rowN n post && o left j)
theorem behind_ok {h : DH} {v rv uv : Value} {g : Gm} {nb mf mo N k y : Nat} {bf bo : Nat → Nat} {n : Nat → Bool} {f o : Nat → Nat → Bool} {pd : Pd} {Z : Value → DH → Prop} (a : GmAt h v g) (ht : g.toks.length ≤ 8) (ss : SS h g nb mf mo bf bo n f o) (hN : ∀ i, i < g.nts.length → N ≤ bo i) (hr : RowsAt h rv 90 2 (pd.right.map symCells)) (hrl : pd.right.length ≤ 5) (hleft : pd.left < g.nts.length) (hs : ∀ s, s ∈ pd.right → SymOk g s) (hk : pd.right[k]? = some ⟨false, y⟩)
    (K : ∀ h' gw, SS h' g nb mf mo bf bo n f (fun x => if x = y then (fun j => o y j || behindQ g n f o (pd.right.drop (k + 1)) pd.left j) else o x) → KS N [] [4] h h' → (gw = false → ∀ j, j < g.toks.length + 1 → behindQ g n f o (pd.right.drop (k + 1)) pd.left j = true → o y j = true) → (gw = true → ∃ j, j < g.toks.length + 1 ∧ behindQ g n f o (pd.right.drop (k + 1)) pd.left j = true ∧ o y j = false) → Z (.bool gw) h') :
    CP Try.prog 72 [.agg ⟨[slb nb g.nts.length, slb mf g.nts.length, slb mo g.nts.length]⟩, v, .agg ⟨[.int .i64 (pd.left : Int), rv, uv]⟩, .int .i64 (k : Int)] h Z := by
  apply R72
  have hkl : k < pd.right.length := (List.getElem?_eq_some_iff.1 hk).1
  have hy : y < g.nts.length := (hs _ (List.mem_of_getElem? hk)).2 rfl
  refine bx_agg ?_
  have e0 := Ext.push h (.cells [slb nb g.nts.length, slb mf g.nts.length, slb mo g.nts.length] 67 .exact)
  have q0 : Has (h.push (.cells [slb nb g.nts.length, slb mf g.nts.length, slb mo g.nts.length] 67 .exact)) h.n (.cells [slb nb g.nts.length, slb mf g.nts.length, slb mo g.nts.length] 67 .exact) := Has.push_self _ _
  generalize h.push (.cells [slb nb g.nts.length, slb mf g.nts.length, slb mo g.nts.length] 67 .exact) = h0 at e0 q0 ⊢
  refine (a.ext e0).boxed fun h1 tv nv pv _ q1 a1 e1 => ?_
  have c1 : GC h1 h0.n tv nv pv g := ⟨q1, a1⟩
  refine bx_agg ?_
  have e2 := Ext.push h1 (.cells [.int .i64 (pd.left : Int), rv, uv] 37 .exact)
  have q2 : Has (h1.push (.cells [.int .i64 (pd.left : Int), rv, uv] 37 .exact)) h1.n (.cells [.int .i64 (pd.left : Int), rv, uv] 37 .exact) := Has.push_self _ _
  generalize h1.push (.cells [.int .i64 (pd.left : Int), rv, uv] 37 .exact) = h2 at e2 q2 ⊢
  have c2 := c1.ext e2
  have q02 := (q0.ext e1).ext e2
  have e02 : Ext h h2 := (e0.trans e1).trans e2
  generalize h1.n = pb at q2 ⊢
  obtain ⟨rv', l1, l2⟩ := slS_drop (hr.ext e02) (j := k + 1) (by rw [List.length_map]; omega)
  rw [← List.map_drop] at l2
  refine obP_of (ldN_has (l := [slb nb g.nts.length, slb mf g.nts.length, slb mo g.nts.length]) q02 rfl) ?_
  rw [c2.ld.2.2.2.2, obP_some, fa_ptr, obP_some, ld1_has q2 (o := 0 + 1) (v := rv) rfl, obP_some, ibin_inc (by omega), obP_some, l1, obP_some]
  have hpos : ∀ s, s ∈ pd.right.drop (k + 1) → s ∈ pd.right := fun x hx => List.mem_of_mem_drop hx
  have ss2 := ss.ext e02
  refine row40_ok c2.2 ht ss2.vn ss2.mf l2 (by rw [List.length_drop]; omega) (fun s hs' => hs s (hpos s hs')) fun h3 lb e3 hlb vl => ?_
  have e03 := e02.trans e3
  have q03 := q02.ext e3
  have q23 := q2.ext e3
  have ss3 := ss.ext e03
  obtain ⟨b', q', cc, md, j1, j2, j3, j4, j5, j6⟩ := (hr.ext e03).at_ (k := .i64) (j := k) (r := symCells ⟨false, y⟩) (by rw [List.getElem?_map, hk]; rfl)
  have hat := ld1_has j3 ((j6 1 (by omega)).trans (show (symCells ⟨false, y⟩)[1]? = some (.int .i64 (y : Int)) from rfl))
  rw [ext1_0, obP_some, ext1_1, obP_some, fa_ptr, obP_some, ld1_has q03 (o := 0 + 2) (v := slb mo g.nts.length) rfl, obP_some, obP_some, ld1_has q23 (o := 0 + 1) (v := rv) rfl, obP_some, j1, obP_some, fa_ptr, obP_some, hat, obP_some, iaS_slb hy, obP_some, ss3.mo.row hy, obP_some]
  have hlbo : lb ≠ bo y := by have := ss2.mo.block hy; omega
  have hq3 : ∀ x p b, Has h3 x (.cells p b .exact) → b ≠ 4 → ∀ h', Kp h3 h' (· = bo y) → Has h' x (.cells p b .exact) := fun x p b hx hb h' kp => hx.ks ((ss3.mo.vec y hy).ks (n0 := 0) (Nat.zero_le _) kp) (by simp) (by simpa using hb)
  generalize hpost : pd.right.drop (k + 1) = post at *
  have fin : ∀ h' gw, Kp h3 h' (· = bo y) → Vec h' (bo y) (g.toks.length + 1) (fun j => o y j || (decide (j < g.toks.length + 1) && behindQ g n f o post pd.left j)) → (gw = false → ∀ j, j < g.toks.length + 1 → behindQ g n f o post pd.left j = true → o y j = true) → (gw = true → ∃ j, j < g.toks.length + 1 ∧ behindQ g n f o post pd.left j = true ∧ o y j = false) → Z (.bool gw) h' := by
    intro h' gw kp hv u0 u1
    refine K h' gw (ss3.updO hy kp (hv.congr fun j hj => by simp [hj])) ((KS.ext e03 : KS N [] [4] h h3).trans ((ss3.mo.vec y hy).ks (hN y hy) kp)) u0 u1
  suffices loop : ∀ (w t : Nat) h' gw, g.toks.length + 1 - t ≤ w → t ≤ g.toks.length + 1 → Kp h3 h' (· = bo y) → Vec h' (bo y) (g.toks.length + 1) (fun j => o y j || (decide (j < t) && behindQ g n f o post pd.left j)) → (gw = false → ∀ j, j < t → behindQ g n f o post pd.left j = true → o y j = true) → (gw = true → ∃ j, j < t ∧ behindQ g n f o post pd.left j = true ∧ o y j = false) →
      A72_1 (.pointer (some ⟨h.n, 0, none⟩)) (.pointer (some ⟨pb, 0, none⟩)) (.bool gw) (slb lb g.toks.length) (.bool (rowN n post)) (slb (bo y) (g.toks.length + 1)) (.int .i64 (t : Int)) h' Z by
    exact loop _ 0 h3 false (Nat.le_refl _) (Nat.zero_le _) (Kp.refl _ _) ((ss3.mo.vec y hy).congr fun j _ => by simp) (fun _ j hj => by omega) (fun hh => by cases hh)
  intro w
  have done : ∀ h' gw, Kp h3 h' (· = bo y) → Vec h' (bo y) (g.toks.length + 1) (fun j => o y j || (decide (j < g.toks.length + 1) && behindQ g n f o post pd.left j)) → (gw = false → ∀ j, j < g.toks.length + 1 → behindQ g n f o post pd.left j = true → o y j = true) → (gw = true → ∃ j, j < g.toks.length + 1 ∧ behindQ g n f o post pd.left j = true ∧ o y j = false) →
      A72_1 (.pointer (some ⟨h.n, 0, none⟩)) (.pointer (some ⟨pb, 0, none⟩)) (.bool gw) (slb lb g.toks.length) (.bool (rowN n post)) (slb (bo y) (g.toks.length + 1)) (.int .i64 ((g.toks.length + 1 : Nat) : Int)) h' Z := by
    intro h' gw kp hv u0 u1
    apply R72_1
    simp only [lenS_sl, ibin_lss, obP_some, asB_bool, show decide (((g.toks.length + 1 : Nat) : Int) < ((g.toks.length + 1 : Nat) : Int)) = false from decide_eq_false (by omega), bP_false]
    exact fin h' gw kp hv u0 u1
  induction w with
  | zero =>
    intro t h' gw hw htl kp hv u0 u1
    have : t = g.toks.length + 1 := by omega
    subst this; exact done h' gw kp hv u0 u1
  | succ w ih =>
    intro t h' gw hw htl kp hv u0 u1
    by_cases hlt : t < g.toks.length + 1
    · apply R72_1
      have xt := hv.ld hlt
      rw [show (o y t || (decide (t < t) && behindQ g n f o post pd.left t)) = o y t from by simp] at xt
      have q0' := hq3 _ _ _ q03 (by decide) h' kp
      have q2' := hq3 _ _ _ q23 (by decide) h' kp
      have vl' := vl.kp kp hlbo
      have mo' := ss3.mo.upd hy kp hv
      have lt' : ∀ r, ld1 h' (.pointer (some ⟨bo pd.left, t, none⟩)) = r → r = some (.bool (o pd.left t)) := by
        intro r hr
        rw [← hr, (mo'.vec pd.left hleft).ld hlt]
        by_cases hly : pd.left = y
        · rw [if_pos hly, hly]; simp
        · rw [if_neg hly]
      have lt := lt' _ rfl
      -- nothing comes here
      have no : behindQ g n f o post pd.left t = false ∨ o y t = true → A72_1 (.pointer (some ⟨h.n, 0, none⟩)) (.pointer (some ⟨pb, 0, none⟩)) (.bool gw) (slb lb g.toks.length) (.bool (rowN n post)) (slb (bo y) (g.toks.length + 1)) (.int .i64 ((t + 1 : Nat) : Int)) h' Z := by
        intro hno
        refine ih (t + 1) h' gw (by omega) hlt kp (hv.congr fun j hj => ?_) (fun hg j hj hq => ?_) (fun hg => ?_)
        · rcases Nat.lt_trichotomy j t with h1 | h1 | h1
          · simp [h1, show j < t + 1 from by omega]
          · subst h1; rcases hno with h2 | h2 <;> simp [h2]
          · simp [show ¬ j < t from by omega, show ¬ j < t + 1 from by omega]
        · rcases Nat.lt_or_eq_of_le (Nat.lt_succ_iff.1 hj) with h1 | h1
          · exact u0 hg j h1 hq
          · subst h1
            rcases hno with h2 | h2
            · rw [hq] at h2; cases h2
            · exact h2
        · obtain ⟨j, h1, h2⟩ := u1 hg
          exact ⟨j, by omega, h2⟩
      have yes : behindQ g n f o post pd.left t = true → o y t = false → obP (Go.Det.st 1 h' (.pointer (some ⟨bo y, t, none⟩)) (.bool true)) fun h54 => obP (ibin .add (.int .i64 (t : Int)) (Value.int .i64 1)) fun v40_55 => A72_1 (.pointer (some ⟨h.n, 0, none⟩)) (.pointer (some ⟨pb, 0, none⟩)) (Value.bool true) (slb lb g.toks.length) (.bool (rowN n post)) (slb (bo y) (g.toks.length + 1)) v40_55 h54 Z := by
        intro hq ho
        refine hv.st hlt fun h4 hv4 f4 => ?_
        rw [ibin_inc (by omega), obP_some]
        refine ih (t + 1) h4 true (by omega) hlt (kp.trans f4) (hv4.congr fun j hj => ?_) (fun hg => by cases hg) (fun _ => ⟨t, by omega, hq, ho⟩)
        rcases Nat.lt_trichotomy j t with h1 | h1 | h1
        · simp [h1, show j < t + 1 from by omega, show ¬ j = t from by omega]
        · subst h1; simp [hq]
        · simp [show ¬ j < t from by omega, show ¬ j < t + 1 from by omega, show ¬ j = t from by omega]
      simp only [lenS_sl, ibin_lss, obP_some, asB_bool, show decide ((t : Int) < ((g.toks.length + 1 : Nat) : Int)) = true from decide_eq_true (by omega), bP_true, iaS_slb hlt, xt, bnot_bool, gotB_true]
      cases ho : o y t with
      | true =>
        simp only [Bool.not_true, g1_false, sel_false, gotB_undef, obP_some, pk_bool, asB_bool, bP_false]
        rw [ibin_inc (by omega), obP_some]
        exact no (.inr ho)
      | false =>
        simp only [Bool.not_false, g1_true, sel_true, lenS_sl, ibin_lss, obP_some, gotB_true]
        have tail : ∀ (B : Bool), (decide (t < g.toks.length) && rowF n f post t) = B → obP (gotB (.bool B) false) (fun w39 => obP (gotB (sel w39 (sel w39 (.bool (rowN n post)) undef) undef) true) fun w40 => g1 w40 (fa 2 (.pointer (some ⟨h.n, 0, none⟩))) fun v60_41 => g1 w40 (ld1 h' v60_41) fun v61_42 => g1 w40 (fa 0 (.pointer (some ⟨pb, 0, none⟩))) fun v62_43 => g1 w40 (ld1 h' v62_43) fun v63_44 => g1 w40 (iaS 1 v61_42 v63_44) fun v64_45 => g1 w40 (ld1 h' v64_45) fun v65_46 => g1 w40 (iaS 1 v65_46 (sel w40 (.int .i64 (t : Int)) undef)) fun v67_47 => g1 w40 (ld1 h' v67_47) fun v68_48 => g1 w39 (pk (sel w39 (sel w39 (.bool (rowN n post)) undef) undef) v68_48 (Value.bool false)) fun v69_49 => obP (pk (.bool B) (Value.bool true) v69_49) fun v70_50 => obP (pk (.bool true) v70_50 (Value.bool false)) fun v71_51 => obP (asB v71_51) fun b52 => bP b52 (obP (Go.Det.st 1 h' (.pointer (some ⟨bo y, t, none⟩)) (Value.bool true)) fun h54 => obP (ibin .add (.int .i64 (t : Int)) (Value.int .i64 1)) fun v40_55 => A72_1 (.pointer (some ⟨h.n, 0, none⟩)) (.pointer (some ⟨pb, 0, none⟩)) (Value.bool true) (slb lb g.toks.length) (.bool (rowN n post)) (slb (bo y) (g.toks.length + 1)) v40_55 h54 Z) (obP (ibin .add (.int .i64 (t : Int)) (Value.int .i64 1)) fun v40_56 => A72_1 (.pointer (some ⟨h.n, 0, none⟩)) (.pointer (some ⟨pb, 0, none⟩)) (.bool gw) (slb lb g.toks.length) (.bool (rowN n post)) (slb (bo y) (g.toks.length + 1)) v40_56 h' Z)) := by
          intro B hB
          cases B with
          | true =>
            simp only [gotB_false, Bool.not_true, obP_some, sel_false, gotB_undef, g1_false, pk_bool, sel_true, asB_bool, bP_true]
            exact yes (by unfold behindQ; rw [hB]; rfl) ho
          | false =>
            simp only [gotB_false, Bool.not_false, obP_some, sel_true, gotB_true]
            cases hno : rowN n post with
            | false =>
              simp only [g1_false, g1_true, pk_bool, sel_false, sel_true, obP_some, asB_bool, bP_false]
              rw [ibin_inc (by omega), obP_some]
              rw [hno] at no
              exact no (.inl (by unfold behindQ; rw [hB, hno]; rfl))
            | true =>
              simp only [g1_true, fa_ptr, sel_true, ld1_has q0' (o := 0 + 2) (v := slb mo g.nts.length) rfl, ld1_has q2' (o := 0 + 0) (v := .int .i64 (pd.left : Int)) rfl, iaS_slb hleft, mo'.row hleft, iaS_slb hlt, lt, pk_bool, sel_false, obP_some, asB_bool]
              rw [hno] at no yes
              cases hl : o pd.left t with
              | true => rw [bP_true]; exact yes (by unfold behindQ; rw [hB, hno, hl]; rfl) ho
              | false =>
                rw [bP_false, ibin_inc (by omega), obP_some]
                exact no (.inl (by unfold behindQ; rw [hB, hno, hl]; rfl))
        by_cases htk : t < g.toks.length
        · simp only [show decide ((t : Int) < (g.toks.length : Int)) = true from decide_eq_true (by omega), g1_true, sel_true, iaS_slb htk, vl'.ld htk, pk_bool, obP_some]
          exact tail _ (by simp [htk])
        · simp only [show decide ((t : Int) < (g.toks.length : Int)) = false from decide_eq_false (by omega), g1_false, pk_bool, sel_false, obP_some]
          exact tail _ (by simp [htk])
    · have : t = g.toks.length + 1 := by omega
      subst this; exact done h' gw kp hv u0 u1
end Go.Det
end
/- lemmataref11.Reckon: the rounds. -/
set_option linter.unusedVariables false
set_option linter.unusedSimpArgs false
set_option maxRecDepth 100000
noncomputable section
namespace Go.Det
open Go.Proofs

def meas (g : Gm) (n : Nat → Bool) (f o : Nat → Nat → Bool) : Nat := cntB g.nts.length n + cntM g.nts.length g.toks.length f + cntM g.nts.length (g.toks.length + 1) o
def CRn (n : Nat → Bool) (p : Pd) : Prop := rowN n p.right = true → n p.left = true
def CRf (g : Gm) (n : Nat → Bool) (f : Nat → Nat → Bool) (p : Pd) (t : Nat) : Prop := ∀ j, j < t → j < g.toks.length → rowF n f p.right j = true → f p.left j = true
def CRo (g : Gm) (n : Nat → Bool) (f o : Nat → Nat → Bool) (p : Pd) (k : Nat) : Prop := ∀ pre post y, p.right = pre ++ ⟨false, y⟩ :: post → pre.length < k → ∀ t, t < g.toks.length + 1 → behindQ g n f o post p.left t = true → o y t = true
def CRp (g : Gm) (n : Nat → Bool) (f o : Nat → Nat → Bool) (p : Pd) : Prop := CRn n p ∧ CRf g n f p g.toks.length ∧ CRo g n f o p p.right.length
/-- Where a round stands. -/
structure RSt (g : Gm) (h0 h : DH) (N nb mf mo : Nat) (bf bo : Nat → Nat) (n : Nat → Bool) (f o : Nat → Nat → Bool) (n' : Nat → Bool) (f' o' : Nat → Nat → Bool) (c : Bool) (D : Prop) : Prop where
  ss : SS h g nb mf mo bf bo n' f' o'
  ks : KS N [] [4] h0 h
  sn : NoOk g n'
  sf : FiOk g f'
  so : FoOk g o'
  eof : o' 0 g.toks.length = true
  c0 : c = false → (∀ i, i < g.nts.length → n' i = n i) ∧ (∀ i j, i < g.nts.length → j < g.toks.length → f' i j = f i j) ∧ (∀ i j, i < g.nts.length → j < g.toks.length + 1 → o' i j = o i j) ∧ D
  le : meas g n' f' o' ≤ meas g n f o
  c1 : c = true → meas g n' f' o' < meas g n f o
section
variable {g : Gm} {h0 h : DH} {N nb mf mo : Nat} {bf bo : Nat → Nat} {n : Nat → Bool} {f o : Nat → Nat → Bool} {n' : Nat → Bool} {f' o' : Nat → Nat → Bool} {c : Bool} {D D' : Prop}
theorem RSt.ext {h' : DH} (a : RSt g h0 h N nb mf mo bf bo n f o n' f' o' c D) (e : Ext h h') : RSt g h0 h' N nb mf mo bf bo n f o n' f' o' c D := ⟨a.ss.ext e, a.ks.trans (KS.ext e), a.sn, a.sf, a.so, a.eof, a.c0, a.le, a.c1⟩
theorem RSt.to (a : RSt g h0 h N nb mf mo bf bo n f o n' f' o' c D) (i : c = false → D → D') : RSt g h0 h N nb mf mo bf bo n f o n' f' o' c D' := ⟨a.ss, a.ks, a.sn, a.sf, a.so, a.eof, fun h => ⟨(a.c0 h).1, (a.c0 h).2.1, (a.c0 h).2.2.1, i h (a.c0 h).2.2.2⟩, a.le, a.c1⟩
theorem RSt.setN {x : Nat} {F : DH → Prop} (a : RSt g h0 h N nb mf mo bf bo n f o n' f' o' c D) (hN : N ≤ nb) (hx : x < g.nts.length) (hP : NullP g x) (hf : n' x = false) (K : ∀ h', RSt g h0 h' N nb mf mo bf bo n f o (fun j => j == x || n' j) f' o' true D' → KS N [] [4] h h' → Kp h h' (· = nb) → F h') : obP (st 1 h (.pointer (some ⟨nb, x, none⟩)) (.bool true)) F := by
  refine a.ss.vn.st hx fun h' hv k => ?_
  have hk := a.ss.vn.ks hN k
  have hlt : cntB g.nts.length (fun j => j == x || n' j) < cntB g.nts.length n' := cntB_lt (fun j _ h => by simp [h]) ⟨x, hx, hf, by simp⟩
  have hle := a.le
  refine K h' ⟨a.ss.updN k hv, a.ks.trans hk, fun j hj hp => ?_, a.sf, a.so, a.eof, (fun h => by cases h), by unfold meas at hle ⊢; omega, fun _ => by unfold meas at hle ⊢; omega⟩ hk k
  simp only [Bool.or_eq_true, beq_iff_eq] at hp
  rcases hp with rfl | hp
  · exact hP
  · exact a.sn j hj hp
theorem RSt.setF {x t : Nat} {F : DH → Prop} (a : RSt g h0 h N nb mf mo bf bo n f o n' f' o' c D) (hN : N ≤ bf x) (hx : x < g.nts.length) (ht : t < g.toks.length) (hP : FirstP g x t) (hf : f' x t = false) (K : ∀ h', RSt g h0 h' N nb mf mo bf bo n f o n' (fun i => if i = x then (fun j => j == t || f' x j) else f' i) o' true D' → KS N [] [4] h h' → Kp h h' (· = bf x) → F h') : obP (st 1 h (.pointer (some ⟨bf x, t, none⟩)) (.bool true)) F := by
  refine (a.ss.mf.vec x hx).st ht fun h' hv k => ?_
  have hk := (a.ss.mf.vec x hx).ks hN k
  have hlt : cntM g.nts.length g.toks.length (fun i => if i = x then (fun j => j == t || f' x j) else f' i) < cntM g.nts.length g.toks.length f' := cntM_lt (fun i j _ _ h => by
    by_cases he : i = x
    · subst he; simp [h]
    · simp only [if_neg he]; exact h) ⟨x, t, hx, ht, hf, by simp⟩
  have hle := a.le
  refine K h' ⟨a.ss.updF hx k hv, a.ks.trans hk, a.sn, fun i j hi hj hp => ?_, a.so, a.eof, (fun h => by cases h), by unfold meas at hle ⊢; omega, fun _ => by unfold meas at hle ⊢; omega⟩ hk k
  by_cases he : i = x
  · subst he
    simp only [if_pos, Bool.or_eq_true, beq_iff_eq] at hp
    rcases hp with rfl | hp
    · exact hP
    · exact a.sf _ _ hi hj hp
  · simp only [if_neg he] at hp; exact a.sf i j hi hj hp
/-- What follows a place. -/
theorem RSt.behind {v rv uv : Value} {k y : Nat} {pd : Pd} {Z : Value → DH → Prop} (a : RSt g h0 h N nb mf mo bf bo n f o n' f' o' c D) (ok : GmOk g) (hpd : pd ∈ g.prods) (ga : GmAt h v g) (hN : ∀ i, i < g.nts.length → N ≤ bo i) (hr : RowsAt h rv 90 2 (pd.right.map symCells)) (hk : pd.right[k]? = some ⟨false, y⟩)
    (cl : c = false → D → (∀ t, t < g.toks.length + 1 → behindQ g n f o (pd.right.drop (k + 1)) pd.left t = true → o y t = true) → D')
    (K : ∀ h' o'' gw, RSt g h0 h' N nb mf mo bf bo n f o n' f' o'' (c || gw) D' → KS N [] [4] h h' → Z (.bool gw) h') :
    CP Try.prog 72 [.agg ⟨[slb nb g.nts.length, slb mf g.nts.length, slb mo g.nts.length]⟩, v, .agg ⟨[.int .i64 (pd.left : Int), rv, uv]⟩, .int .i64 (k : Int)] h Z := by
  have hy : y < g.nts.length := (ok.sym _ hpd _ (List.mem_of_getElem? hk)).2 rfl
  have hleft := ok.left _ hpd
  have hkl : k < pd.right.length := (List.getElem?_eq_some_iff.1 hk).1
  have hsplit : pd.right = pd.right.take k ++ ⟨false, y⟩ :: pd.right.drop (k + 1) := by
    have h1 : pd.right[k] = ⟨false, y⟩ := by rw [List.getElem?_eq_getElem hkl] at hk; simpa using hk
    rw [← h1, ← List.drop_eq_getElem_cons hkl, List.take_append_drop]
  have hpos : ∀ s, s ∈ pd.right.drop (k + 1) → s ∈ pd.right := fun x hx => List.mem_of_mem_drop hx
  refine behind_ok ga ok.t.2 a.ss hN hr (ok.right _ hpd) hleft (ok.sym _ hpd) hk fun h' gw ss' hks b0 b1 => ?_
  generalize hpost : pd.right.drop (k + 1) = post at *
  have hQ : ∀ t, t < g.toks.length + 1 → behindQ g n' f' o' post pd.left t = true → FollowP g y t := by
    intro t ht hq
    unfold behindQ at hq
    simp only [Bool.or_eq_true, Bool.and_eq_true, decide_eq_true_eq] at hq
    rcases hq with ⟨h1, h2⟩ | ⟨h1, h2⟩
    · refine .next pd hpd _ post y t hsplit h1 ?_
      rw [show rowF (nullF g) (firstF g) post t = rowF (fun x => nullF g x) (firstF g) post t from rfl]
      obtain ⟨pre2, s2, post2, e2, hn2, hh2⟩ := rowF_iff.1 h2
      refine rowF_iff.2 ⟨pre2, s2, post2, e2, rowN_iff.2 fun s hs => ?_, ?_⟩
      · have := rowN_iff.1 hn2 s hs
        refine ⟨this.1, nullF_iff.2 (a.sn _ ((ok.sym _ hpd s (hpos s (by rw [e2]; simp [hs]))).2 this.1) this.2)⟩
      · rcases hh2 with h | ⟨h3, h4⟩
        · exact .inl h
        · exact .inr ⟨h3, firstF_iff.2 (a.sf _ _ ((ok.sym _ hpd s2 (hpos s2 (by rw [e2]; simp))).2 h3) h1 h4)⟩
    · refine .last pd hpd _ post y t hsplit (rowN_iff.2 fun s hs => ?_) (a.so _ _ hleft ht h2)
      have := rowN_iff.1 h1 s hs
      exact ⟨this.1, nullF_iff.2 (a.sn _ ((ok.sym _ hpd s (hpos s hs)).2 this.1) this.2)⟩
  have so' : FoOk g (fun x => if x = y then (fun j => o' y j || behindQ g n' f' o' post pd.left j) else o' x) := by
    intro i j hi hj hp
    by_cases he : i = y
    · subst he
      simp only [if_pos, Bool.or_eq_true] at hp
      rcases hp with hp | hp
      · exact a.so _ _ hi hj hp
      · exact hQ j hj hp
    · simp only [if_neg he] at hp; exact a.so i j hi hj hp
  have mono : ∀ i j, i < g.nts.length → j < g.toks.length + 1 → o' i j = true → (if i = y then (fun j => o' y j || behindQ g n' f' o' post pd.left j) else o' i) j = true := by
    intro i j hi hj hp
    by_cases he : i = y
    · subst he; simp [hp]
    · simp only [if_neg he]; exact hp
  have heof : (fun x => if x = y then (fun j => o' y j || behindQ g n' f' o' post pd.left j) else o' x) 0 g.toks.length = true := mono 0 _ (by have := ok.n.1; omega) (by omega) a.eof
  have hle := a.le
  have hle2 : cntM g.nts.length (g.toks.length + 1) (fun x => if x = y then (fun j => o' y j || behindQ g n' f' o' post pd.left j) else o' x) ≤ cntM g.nts.length (g.toks.length + 1) o' := cntM_le mono
  refine K h' _ gw ⟨ss', a.ks.trans hks, a.sn, a.sf, so', heof, fun hc => ?_, by unfold meas at hle ⊢; omega, fun hc => ?_⟩ hks
  · simp only [Bool.or_eq_false_iff] at hc
    obtain ⟨hc, hg⟩ := hc
    obtain ⟨d1, d2, d3, d4⟩ := a.c0 hc
    have hb := b0 hg
    have hqq : ∀ t, t < g.toks.length + 1 → behindQ g n' f' o' post pd.left t = behindQ g n f o post pd.left t := by
      intro t ht
      unfold behindQ
      rw [rowN_congr (n := n') (n' := n) fun s hs hst => d1 _ ((ok.sym _ hpd s (hpos s hs)).2 hst), d3 _ _ hleft ht]
      by_cases h1 : t < g.toks.length
      · rw [rowF_congr (n := n') (n' := n) (f := f') (f' := f) fun s hs hst => ⟨d1 _ ((ok.sym _ hpd s (hpos s hs)).2 hst), d2 _ _ ((ok.sym _ hpd s (hpos s hs)).2 hst) h1⟩]
      · simp [h1]
    refine ⟨d1, d2, fun i j hi hj => ?_, cl hc d4 fun t ht hq => ?_⟩
    · rw [← d3 i j hi hj]
      by_cases he : i = y
      · subst he
        simp only [if_pos]
        cases hq : behindQ g n' f' o' post pd.left j with
        | false => simp
        | true => rw [hb j hj hq]; rfl
      · simp only [if_neg he]
    · rw [← d3 _ _ hy ht]
      exact hb t ht (by rw [hqq t ht]; exact hq)
  · cases gw with
    | false =>
      rw [Bool.or_false] at hc
      have := a.c1 hc
      unfold meas at this ⊢; omega
    | true =>
      obtain ⟨j, hj, hq, ho⟩ := b1 rfl
      have hlt : cntM g.nts.length (g.toks.length + 1) (fun x => if x = y then (fun j => o' y j || behindQ g n' f' o' post pd.left j) else o' x) < cntM g.nts.length (g.toks.length + 1) o' := cntM_lt mono ⟨y, j, hy, hj, ho, by simp [hq]⟩
      unfold meas at hle ⊢; omega
end
end Go.Det
end
/- lemmataref11.Reckon: a round. -/
set_option linter.unusedVariables false
set_option linter.unusedSimpArgs false
set_option maxRecDepth 100000
noncomputable section
namespace Go.Det
open Go.Proofs

section
variable {g : Gm} {h0 hP : DH} {N gb sb pb nb mf mo : Nat} {bf bo : Nat → Nat} {n : Nat → Bool} {f o : Nat → Nat → Bool} {D : Prop} {v1 v2 v6 tv nv pv rv uv : Value} {pd : Pd} {Z : Value → DH → Prop}
abbrev setsC (g : Gm) (nb mf mo : Nat) : List Value := [slb nb g.nts.length, slb mf g.nts.length, slb mo g.nts.length]
theorem reckon5 (ok : GmOk g) (hpd : pd ∈ g.prods) (hB : ∀ i, i < g.nts.length → N ≤ bf i) (qp : Has hP pb (.cells [.int .i64 (pd.left : Int), rv, uv] 37 .exact)) (qs : Has hP sb (.cells (setsC g nb mf mo) 67 .exact)) {lb : Nat} {q : Nat → Bool} (hlb : ∀ i, i < g.nts.length → lb ≠ bf i) (hq : ∀ t, t < g.toks.length → q t = true → FirstP g pd.left t) {n' : Nat → Bool} {o' : Nat → Nat → Bool}
    (K : ∀ h' f' c, KS N [] [4] hP h' → RSt g h0 h' N nb mf mo bf bo n f o n' f' o' c (D ∧ CRf g n f pd g.toks.length) → A33_6 v1 v2 (.pointer (some ⟨sb, 0, none⟩)) (.bool c) v6 (.pointer (some ⟨pb, 0, none⟩)) (.int .i64 0) h' Z) (w : Nat) :
    ∀ t h' f' c, g.toks.length - t ≤ w → t ≤ g.toks.length → KS N [] [4] hP h' → Vec h' lb g.toks.length q → RSt g h0 h' N nb mf mo bf bo n f o n' f' o' c (D ∧ CRf g n f pd t) → (c = false → ∀ t, t < g.toks.length → q t = rowF n f pd.right t) →
      A33_5 v1 v2 (.pointer (some ⟨sb, 0, none⟩)) (.bool c) v6 (.pointer (some ⟨pb, 0, none⟩)) (slb lb g.toks.length) (.int .i64 (t : Int)) h' Z := by
  have hleft := ok.left _ hpd
  have htl := ok.t.2
  have done : ∀ h' f' c, KS N [] [4] hP h' → RSt g h0 h' N nb mf mo bf bo n f o n' f' o' c (D ∧ CRf g n f pd g.toks.length) → A33_5 v1 v2 (.pointer (some ⟨sb, 0, none⟩)) (.bool c) v6 (.pointer (some ⟨pb, 0, none⟩)) (slb lb g.toks.length) (.int .i64 (g.toks.length : Int)) h' Z := by
    intro h' f' c ks rs
    apply R33_5
    simp only [lenS_sl, ibin_lss, obP_some, asB_bool, show decide ((g.toks.length : Int) < (g.toks.length : Int)) = false from decide_eq_false (by omega), bP_false]
    exact K h' f' c ks rs
  induction w with
  | zero =>
    intro t h' f' c hw ht ks vl rs hqc
    have : t = g.toks.length := by omega
    subst this; exact done h' f' c ks rs
  | succ w ih =>
    intro t h' f' c hw ht ks vl rs hqc
    by_cases hlt : t < g.toks.length
    · apply R33_5
      have qp' := qp.ks ks (by decide) (by decide)
      have qs' := qs.ks ks (by decide) (by decide)
      have ext : c = false → (q t = true → f pd.left t = true) → D ∧ CRf g n f pd t → D ∧ CRf g n f pd (t + 1) := fun hc h1 hd => ⟨hd.1, fun j hj hjt hr => by
        rcases Nat.lt_or_eq_of_le (Nat.lt_succ_iff.1 hj) with h | h
        · exact hd.2 j h hjt hr
        · subst h; exact h1 (by rw [hqc hc j hlt]; exact hr)⟩
      simp only [lenS_sl, ibin_lss, obP_some, asB_bool, show decide ((t : Int) < (g.toks.length : Int)) = true from decide_eq_true (by omega), bP_true, iaS_slb hlt, vl.ld hlt, gotB_true]
      cases hqt : q t with
      | false =>
        simp only [g1_false, pk_bool, sel_false, obP_some, asB_bool, bP_false]
        rw [ibin_inc (by omega), obP_some]
        exact ih (t + 1) h' f' c (by omega) hlt ks vl (rs.to fun hc hd => ext hc (fun h => by rw [hqt] at h; cases h) hd) hqc
      | true =>
        simp only [g1_true, sel_true, fa_ptr, obP_some, ld1_has qs' (o := 0 + 1) (v := slb mf g.nts.length) rfl, ld1_has qp' (o := 0 + 0) (v := .int .i64 (pd.left : Int)) rfl, iaS_slb hleft, rs.ss.mf.row hleft, iaS_slb hlt, (rs.ss.mf.vec _ hleft).ld hlt, bnot_bool, pk_bool, asB_bool]
        cases hf : f' pd.left t with
        | true =>
          simp only [Bool.not_true, bP_false]
          rw [ibin_inc (by omega), obP_some]
          exact ih (t + 1) h' f' c (by omega) hlt ks vl (rs.to fun hc hd => ext hc (fun _ => by rw [← (rs.c0 hc).2.1 _ _ hleft hlt]; exact hf) hd) hqc
        | false =>
          simp only [Bool.not_false, bP_true]
          refine rs.setF (D' := D ∧ CRf g n f pd (t + 1)) (hB _ hleft) hleft hlt (hq t hlt hqt) hf fun h4 rs4 k4 f4 => ?_
          rw [ibin_inc (by omega), obP_some]
          exact ih (t + 1) h4 _ true (by omega) hlt (ks.trans k4) (vl.kp f4 (hlb _ hleft)) rs4 (fun h => by cases h)
    · have : t = g.toks.length := by omega
      subst this; exact done h' f' c ks rs
theorem reckon6 (ok : GmOk g) (hpd : pd ∈ g.prods) (hB : ∀ i, i < g.nts.length → N ≤ bo i) (gc : GC hP gb tv nv pv g) (qp : Has hP pb (.cells [.int .i64 (pd.left : Int), rv, uv] 37 .exact)) (qs : Has hP sb (.cells (setsC g nb mf mo) 67 .exact)) (hr : RowsAt hP rv 90 2 (pd.right.map symCells)) {n' : Nat → Bool} {f' : Nat → Nat → Bool} {m : Nat}
    (K : ∀ h' o' c, KS N [] [4] hP h' → RSt g h0 h' N nb mf mo bf bo n f o n' f' o' c (D ∧ CRo g n f o pd pd.right.length) → obP (ibin .add (.int .i64 (m : Int)) (.int .i64 1)) fun v58_144 => A33_3 (.pointer (some ⟨gb, 0, none⟩)) v2 (.pointer (some ⟨sb, 0, none⟩)) (.bool c) v58_144 h' Z) (w : Nat) :
    ∀ k h' o' c, pd.right.length - k ≤ w → k ≤ pd.right.length → KS N [] [4] hP h' → RSt g h0 h' N nb mf mo bf bo n f o n' f' o' c (D ∧ CRo g n f o pd k) →
      A33_6 (.pointer (some ⟨gb, 0, none⟩)) v2 (.pointer (some ⟨sb, 0, none⟩)) (.bool c) (.int .i64 (m : Int)) (.pointer (some ⟨pb, 0, none⟩)) (.int .i64 (k : Int)) h' Z := by
  have hrl := ok.right _ hpd
  have done : ∀ h' o' c, KS N [] [4] hP h' → RSt g h0 h' N nb mf mo bf bo n f o n' f' o' c (D ∧ CRo g n f o pd pd.right.length) → A33_6 (.pointer (some ⟨gb, 0, none⟩)) v2 (.pointer (some ⟨sb, 0, none⟩)) (.bool c) (.int .i64 (m : Int)) (.pointer (some ⟨pb, 0, none⟩)) (.int .i64 (pd.right.length : Int)) h' Z := by
    intro h' o' c ks rs
    apply R33_6
    have qp' := qp.ks ks (by decide) (by decide)
    have hr' := hr.ks ks (by decide) (by decide)
    simp only [fa_ptr, obP_some, ld1_has qp' (o := 0 + 1) (v := rv) rfl, hr'.len, List.length_map, ibin_lss, asB_bool, show decide ((pd.right.length : Int) < (pd.right.length : Int)) = false from decide_eq_false (by omega), bP_false]
    exact K h' o' c ks rs
  induction w with
  | zero =>
    intro k h' o' c hw hk ks rs
    have : k = pd.right.length := by omega
    subst this; exact done h' o' c ks rs
  | succ w ih =>
    intro k h' o' c hw hk ks rs
    by_cases hlt : k < pd.right.length
    · apply R33_6
      have qp' := qp.ks ks (by decide) (by decide)
      have qs' := qs.ks ks (by decide) (by decide)
      have gc' := gc.ks ks (by decide)
      have hr' := hr.ks ks (by decide) (by decide)
      have hsplit : pd.right = pd.right.take k ++ pd.right[k] :: pd.right.drop (k + 1) := by
        rw [← List.drop_eq_getElem_cons hlt, List.take_append_drop]
      have hca : CRo g n f o pd k → (∀ y, pd.right[k] = ⟨false, y⟩ → ∀ t, t < g.toks.length + 1 → behindQ g n f o (pd.right.drop (k + 1)) pd.left t = true → o y t = true) → CRo g n f o pd (k + 1) := by
        intro h1 h2 pre post y e hl
        rcases Nat.lt_or_eq_of_le (Nat.lt_succ_iff.1 hl) with hl | hl
        · exact h1 pre post y e hl
        · have := List.append_inj (hsplit.symm.trans e) (by rw [List.length_take]; omega)
          simp only [List.cons.injEq] at this
          obtain ⟨_, t1, t2⟩ := this
          rw [← t2]
          exact h2 y t1
      obtain ⟨b', q', cc, md, j1, j2, j3, j4, j5, j6⟩ := hr'.at_ (k := .i64) (j := k) (r := symCells pd.right[k]) (by simp [hlt])
      have htok := ld1_has j3 ((j6 0 (by omega)).trans (show (symCells pd.right[k])[0]? = some (.bool pd.right[k].tok) from rfl))
      simp only [fa_ptr, obP_some, ld1_has qp' (o := 0 + 1) (v := rv) rfl, hr'.len, List.length_map, ibin_lss, asB_bool, show decide ((k : Int) < (pd.right.length : Int)) = true from decide_eq_true (by omega), bP_true, j1, htok, bnot_bool, gotB_true]
      cases hst : pd.right[k].tok with
      | true =>
        simp only [Bool.not_true, g1_false, g4_false, pk_bool, sel_false, obP_some, asB_bool, bP_false]
        rw [ibin_inc (by omega), obP_some]
        exact ih (k + 1) h' o' c (by omega) hlt ks (rs.to fun _ hd => ⟨hd.1, hca hd.2 fun y hy => by rw [hy] at hst; cases hst⟩)
      | false =>
        have hk' : pd.right[k]? = some ⟨false, pd.right[k].at_⟩ := by
          rw [List.getElem?_eq_getElem hlt, Option.some.injEq]
          conv => lhs; rw [show pd.right[k] = ⟨pd.right[k].tok, pd.right[k].at_⟩ from rfl, hst]
        simp only [Bool.not_false, g1_true, sel_true]
        rw [show ldN 3 h' (.pointer (some ⟨sb, 0, none⟩)) = some (.agg ⟨setsC g nb mf mo⟩) from ldN_has (l := setsC g nb mf mo) qs' rfl, obP_some, gc'.ld.2.2.2.2, obP_some, show ldN 3 h' (.pointer (some ⟨pb, 0, none⟩)) = some (.agg ⟨[.int .i64 (pd.left : Int), rv, uv]⟩) from ldN_has (l := [.int .i64 (pd.left : Int), rv, uv]) qp' rfl, obP_some, g4_true]
        refine rs.behind (D' := D ∧ CRo g n f o pd (k + 1)) ok hpd gc'.2 hB hr' hk' (fun hc hd hx => ⟨hd.1, hca hd.2 fun y hy => ?_⟩) fun h4 o4 gw rs4 k4 => ?_
        · rw [hy] at hx; exact hx
        · rw [pk_bool, sel_true, obP_some, asB_bool, obP_some]
          cases gw with
          | true =>
            rw [bP_true, ibin_inc (by omega), obP_some]
            rw [Bool.or_true] at rs4
            exact ih (k + 1) h4 o4 true (by omega) hlt (ks.trans k4) rs4
          | false =>
            rw [bP_false, ibin_inc (by omega), obP_some]
            rw [Bool.or_false] at rs4
            exact ih (k + 1) h4 o4 c (by omega) hlt (ks.trans k4) rs4
    · have : k = pd.right.length := by omega
      subst this; exact done h' o' c ks rs
theorem reckon3 (ok : GmOk g) (hN : N ≤ nb) (hB : ∀ i, i < g.nts.length → N ≤ bf i ∧ N ≤ bo i) (gc : GC h0 gb tv nv pv g) (qs : Has h0 sb (.cells (setsC g nb mf mo) 67 .exact))
    (K : ∀ h' n' f' o' c, RSt g h0 h' N nb mf mo bf bo n f o n' f' o' c (∀ pd, pd ∈ g.prods → CRp g n f o pd) → A33_2 (.pointer (some ⟨gb, 0, none⟩)) v2 (.pointer (some ⟨sb, 0, none⟩)) (.bool c) h' Z) (w : Nat) :
    ∀ k h' n' f' o' c, g.prods.length - k ≤ w → k ≤ g.prods.length → RSt g h0 h' N nb mf mo bf bo n f o n' f' o' c (∀ pd, pd ∈ g.prods.take k → CRp g n f o pd) →
      A33_3 (.pointer (some ⟨gb, 0, none⟩)) v2 (.pointer (some ⟨sb, 0, none⟩)) (.bool c) (.int .i64 (k : Int)) h' Z := by
  have done : ∀ h' n' f' o' c, RSt g h0 h' N nb mf mo bf bo n f o n' f' o' c (∀ pd, pd ∈ g.prods.take g.prods.length → CRp g n f o pd) → A33_3 (.pointer (some ⟨gb, 0, none⟩)) v2 (.pointer (some ⟨sb, 0, none⟩)) (.bool c) (.int .i64 (g.prods.length : Int)) h' Z := by
    intro h' n' f' o' c rs
    apply R33_3
    have gc' := gc.ks rs.ks (by decide)
    simp only [fa_ptr, obP_some, gc'.ld.2.2.2.1, gc'.len.2.2, ibin_lss, asB_bool, show decide ((g.prods.length : Int) < (g.prods.length : Int)) = false from decide_eq_false (by omega), bP_false]
    rw [List.take_length] at rs
    exact K h' n' f' o' c rs
  induction w with
  | zero =>
    intro k h' n' f' o' c hw hk rs
    have : k = g.prods.length := by omega
    subst this; exact done h' n' f' o' c rs
  | succ w ih =>
    intro k h' n' f' o' c hw hk rs
    by_cases hlt : k < g.prods.length
    · apply R33_3
      have gc' := gc.ks rs.ks (by decide)
      have qs' := qs.ks rs.ks (by decide) (by decide)
      obtain ⟨w', rv, uv, k1, k2, k3, k4⟩ := gc'.prod hlt
      have hmem : g.prods[k] ∈ g.prods := List.getElem_mem hlt
      have htk : ∀ pd, pd ∈ g.prods.take (k + 1) → pd ∈ g.prods.take k ∨ pd = g.prods[k] := by
        intro pd hpd
        rw [List.take_succ_eq_append_getElem hlt] at hpd
        rcases List.mem_append.1 hpd with h | h
        · exact .inl h
        · exact .inr (by simpa using h)
      have hpl := ok.p.2
      generalize hpe : g.prods[k] = pd at *
      have hleft := ok.left _ hmem
      have hrl := ok.right _ hmem
      simp only [fa_ptr, obP_some, gc'.ld.2.2.2.1, gc'.len.2.2, ibin_lss, asB_bool, show decide ((k : Int) < (g.prods.length : Int)) = true from decide_eq_true (by omega), bP_true, k1, k2]
      refine al_st (cs := [.int .i64 (pd.left : Int), rv, uv]) rfl rfl k4 fun h2 e2 q2 => ?_
      have gc2 := gc'.ext e2
      have qs2 := qs'.ext e2
      have rs2 := rs.ext e2
      generalize h'.n = pb at q2 ⊢
      rw [show ldN 3 h2 (.pointer (some ⟨sb, 0, none⟩)) = some (.agg ⟨setsC g nb mf mo⟩) from ldN_has (l := setsC g nb mf mo) qs2 rfl, obP_some, gc2.ld.2.2.2.2, obP_some, fa_ptr, obP_some, ld1_has q2 (o := 0 + 1) (v := rv) rfl, obP_some]
      refine row40_ok gc2.2 ok.t.2 rs2.ss.vn rs2.ss.mf (k3.ext e2) (by omega) (ok.sym _ hmem) fun h3 lb e3 hlb vl => ?_
      have gc3 := gc2.ext e3
      have qs3 := qs2.ext e3
      have q3 := q2.ext e3
      have rs3 := rs2.ext e3
      have hlb' : ∀ i, i < g.nts.length → lb ≠ bf i := fun i hi => by have := rs2.ss.mf.block hi; omega
      have hlbn : lb ≠ nb := by have := rs2.ss.vn.1; omega
      have kr3 := (k3.ext e2).ext e3
      rw [ext1_0, obP_some, ext1_1, obP_some, gotB_true, obP_some]
      have hsn : rowN n' pd.right = true → NullP g pd.left := fun hr => .mk pd hmem (fun s hs => (rowN_iff.1 hr s hs).1) fun s hs => rs.sn _ ((ok.sym _ hmem s hs).2 (rowN_iff.1 hr s hs).1) (rowN_iff.1 hr s hs).2
      have hsf : ∀ t, t < g.toks.length → rowF n' f' pd.right t = true → FirstP g pd.left t := fun t ht hh => by
        refine firstF_iff.1 (firstF_close _ hmem t ht ?_)
        obtain ⟨pre2, s2, post2, e2, hn2, hh2⟩ := rowF_iff.1 hh
        refine rowF_iff.2 ⟨pre2, s2, post2, e2, rowN_iff.2 fun s hs => ?_, ?_⟩
        · have := rowN_iff.1 hn2 s hs
          exact ⟨this.1, nullF_iff.2 (rs.sn _ ((ok.sym _ hmem s (by rw [e2]; simp [hs])).2 this.1) this.2)⟩
        · rcases hh2 with h | ⟨h3, h4⟩
          · exact .inl h
          · exact .inr ⟨h3, firstF_iff.2 (rs.sf _ _ ((ok.sym _ hmem s2 (by rw [e2]; simp)).2 h3) ht h4)⟩
      -- what stands behind the first set
      have rest : ∀ h5 n5 c5, KS N [] [4] h3 h5 → Vec h5 lb g.toks.length (rowF n' f' pd.right) → RSt g h0 h5 N nb mf mo bf bo n f o n5 f' o' c5 ((∀ pd, pd ∈ g.prods.take k → CRp g n f o pd) ∧ CRn n pd) → (c5 = false → c = false) → A33_4 (.pointer (some ⟨gb, 0, none⟩)) v2 (.pointer (some ⟨sb, 0, none⟩)) (.bool c5) (.int .i64 (k : Int)) (.pointer (some ⟨pb, 0, none⟩)) (slb lb g.toks.length) h5 Z := by
        intro h5 n5 c5 k5 vl5 rs5 hc5
        apply R33_4
        refine reckon5 ok hmem (fun i hi => (hB i hi).1) q3 qs3 hlb' hsf (fun h6 f6 c6 k6 rs6 => ?_) _ 0 h5 f' c5 (Nat.le_refl _) (Nat.zero_le _) k5 vl5 (rs5.to fun _ hd => ⟨hd, fun j hj => by omega⟩) (fun hc t ht => ?_)
        · refine reckon6 ok hmem (fun i hi => (hB i hi).2) gc3 q3 qs3 kr3 (fun h7 o7 c7 k7 rs7 => ?_) _ 0 h6 o' c6 (Nat.le_refl _) (Nat.zero_le _) k6 (rs6.to fun _ hd => ⟨hd, fun pre post y _ hl => by omega⟩)
          rw [ibin_inc (by omega), obP_some]
          refine ih (k + 1) h7 n5 f6 o7 c7 (by omega) hlt (rs7.to fun _ hd pd' hpd => ?_)
          rcases htk pd' hpd with h | rfl
          · exact hd.1.1.1 pd' h
          · exact ⟨hd.1.1.2, hd.1.2, hd.2⟩
        · have hc' := rs.c0 (hc5 hc)
          exact rowF_congr fun s hs hst => ⟨hc'.1 _ ((ok.sym _ hmem s hs).2 hst), hc'.2.1 _ _ ((ok.sym _ hmem s hs).2 hst) ht⟩
      have rcong : c = false → rowN n' pd.right = rowN n pd.right := fun hc => rowN_congr fun s hs hst => (rs.c0 hc).1 _ ((ok.sym _ hmem s hs).2 hst)
      cases hnr : rowN n' pd.right with
      | false =>
        simp only [g1_false, pk_bool, sel_false, obP_some, asB_bool, bP_false]
        refine rest h3 n' c (KS.refl _ _ _ _) vl (rs3.to fun hc hd => ⟨hd, fun hr => ?_⟩) id
        rw [← rcong hc, hnr] at hr; cases hr
      | true =>
        simp only [g1_true, fa_ptr, obP_some, ld1_has qs3 (o := 0 + 0) (v := slb nb g.nts.length) rfl, ld1_has q3 (o := 0 + 0) (v := .int .i64 (pd.left : Int)) rfl, iaS_slb hleft, rs3.ss.vn.ld hleft, bnot_bool, pk_bool, sel_true, asB_bool]
        cases hl : n' pd.left with
        | true =>
          simp only [Bool.not_true, bP_false]
          exact rest h3 n' c (KS.refl _ _ _ _) vl (rs3.to fun hc hd => ⟨hd, fun _ => by rw [← (rs.c0 hc).1 _ hleft]; exact hl⟩) id
        | false =>
          simp only [Bool.not_false, bP_true]
          refine rs3.setN (D' := (∀ pd, pd ∈ g.prods.take k → CRp g n f o pd) ∧ CRn n pd) hN hleft (hsn hnr) hl fun h4 rs4 k4 f4 => ?_
          exact rest h4 _ true k4 (vl.kp f4 hlbn) rs4 (fun h => by cases h)
    · have : k = g.prods.length := by omega
      subst this; exact done h' n' f' o' c rs
end
end Go.Det
end
/- lemmataref11.Reckon. -/
set_option linter.unusedVariables false
set_option linter.unusedSimpArgs false
set_option maxRecDepth 100000
noncomputable section
namespace Go.Det
open Go.Proofs

theorem SS.ks {h h' : DH} {g : Gm} {nb mf mo n0 : Nat} {o' ts : List Nat} {bf bo : Nat → Nat} {n : Nat → Bool} {f o : Nat → Nat → Bool} (a : SS h g nb mf mo bf bo n f o) (k : KS n0 o' ts h h') (h1 : ∀ x, x ∈ [4, 64] → x ∉ o' ∧ x ∉ ts) : SS h' g nb mf mo bf bo n f o := by
  have k4 := h1 4 (by simp)
  have k64 := h1 64 (by simp)
  exact ⟨Has.ks a.vn k k4.1 k4.2, ⟨a.mf.hd.imp fun _ q => q.ks k k64.1 k64.2, fun i hi => Has.ks (a.mf.vec i hi) k k4.1 k4.2, a.mf.inj⟩, ⟨a.mo.hd.imp fun _ q => q.ks k k64.1 k64.2, fun i hi => Has.ks (a.mo.vec i hi) k k4.1 k4.2, a.mo.inj⟩, a.d1, a.d2, a.d3⟩
section
variable {g : Gm} {hB : DH} {N gb sb rb nb mf mo : Nat} {bf bo : Nat → Nat} {tv nv pv : Value} {Z : Value → DH → Prop}
theorem reckon2 (ok : GmOk g) (hN : N ≤ nb) (hBB : ∀ i, i < g.nts.length → N ≤ bf i ∧ N ≤ bo i) (gc : GC hB gb tv nv pv g) (qs : Has hB sb (.cells (setsC g nb mf mo) 67 .exact)) {c0 : List Value} (hc0 : c0.length = 3) (qr : Has hB rb (.cells c0 67 .exact)) (hrs : rb ≠ sb)
    (K : ∀ h', KS N [] [4] hB h' → SS h' g nb mf mo bf bo (nullF g) (firstF g) (followF g) → Z (.agg ⟨setsC g nb mf mo⟩) (h'.upd rb (.cells (setsC g nb mf mo) 67 .exact))) (M : Nat) :
    ∀ h n f o, meas g n f o ≤ M → KS N [] [4] hB h → SS h g nb mf mo bf bo n f o → NoOk g n → FiOk g f → FoOk g o → o 0 g.toks.length = true → A33_2 (.pointer (some ⟨gb, 0, none⟩)) (.pointer (some ⟨rb, 0, none⟩)) (.pointer (some ⟨sb, 0, none⟩)) (.bool true) h Z := by
  have step : ∀ h n f o, KS N [] [4] hB h → SS h g nb mf mo bf bo n f o → NoOk g n → FiOk g f → FoOk g o → o 0 g.toks.length = true → (∀ h' n' f' o', meas g n' f' o' < meas g n f o → KS N [] [4] hB h' → SS h' g nb mf mo bf bo n' f' o' → NoOk g n' → FiOk g f' → FoOk g o' → o' 0 g.toks.length = true → A33_2 (.pointer (some ⟨gb, 0, none⟩)) (.pointer (some ⟨rb, 0, none⟩)) (.pointer (some ⟨sb, 0, none⟩)) (.bool true) h' Z) → A33_2 (.pointer (some ⟨gb, 0, none⟩)) (.pointer (some ⟨rb, 0, none⟩)) (.pointer (some ⟨sb, 0, none⟩)) (.bool true) h Z := by
    intro h n f o ks ss sn sf so eof next
    apply R33_2
    rw [asB_bool, obP_some, bP_true]
    have gc' := gc.ks ks (by decide)
    have qs' := qs.ks ks (by decide) (by decide)
    refine reckon3 ok hN hBB gc' qs' (fun h' n' f' o' c rs => ?_) _ 0 h n f o false (Nat.le_refl _) (Nat.zero_le _) ⟨ss, KS.refl _ _ _ _, sn, sf, so, eof, fun _ => ⟨fun _ _ => rfl, fun _ _ _ _ => rfl, fun _ _ _ _ => rfl, fun pd hp => by simp at hp⟩, Nat.le_refl _, fun h => by cases h⟩
    cases c with
    | true => exact next h' n' f' o' (rs.c1 rfl) (ks.trans rs.ks) rs.ss rs.sn rs.sf rs.so rs.eof
    | false =>
      obtain ⟨d1, d2, d3, d4⟩ := rs.c0 rfl
      have en : ∀ j, j < g.nts.length → n' j = nullF g j := by
        intro j hj
        cases hp : n' j with
        | true => exact (nullF_iff.2 (rs.sn j hj hp)).symm
        | false =>
          cases hnf : nullF g j with
          | false => rfl
          | true =>
            have : n j = true := nullP_of (fun p hp => (d4 p hp).1) (nullF_iff.1 hnf)
            rw [← d1 j hj, hp] at this; cases this
      have en' : ∀ j, j < g.nts.length → n j = nullF g j := fun j hj => by rw [← d1 j hj]; exact en j hj
      have ef : ∀ i j, i < g.nts.length → j < g.toks.length → f' i j = firstF g i j := by
        intro i j hi hj
        cases hp : f' i j with
        | true => exact (firstF_iff.2 (rs.sf i j hi hj hp)).symm
        | false =>
          cases hnf : firstF g i j with
          | false => rfl
          | true =>
            have cl : ClF g f := fun p hp t ht hh => (d4 p hp).2.1 t ht ht (by rw [rowF_congr (n := n) (n' := nullF g) (f := f) (f' := f) fun s hs hst => ⟨en' _ ((ok.sym _ hp s hs).2 hst), rfl⟩]; exact hh)
            have := firstP_of cl hj (firstF_iff.1 hnf)
            rw [← d2 i j hi hj, hp] at this; cases this
      have ef' : ∀ i j, i < g.nts.length → j < g.toks.length → f i j = firstF g i j := fun i j hi hj => by rw [← d2 i j hi hj]; exact ef i j hi hj
      have eo : ∀ i j, i < g.nts.length → j < g.toks.length + 1 → o' i j = followF g i j := by
        intro i j hi hj
        cases hp : o' i j with
        | true => exact (followF_iff.2 (rs.so i j hi hj hp)).symm
        | false =>
          cases hnf : followF g i j with
          | false => rfl
          | true =>
            have hin : ∀ p, p ∈ g.prods → ∀ pre post (y : Nat), p.right = pre ++ ⟨false, y⟩ :: post → ∀ s, s ∈ post → s ∈ p.right := fun p hp pre post y e s hs => by rw [e]; simp [hs]
            have cl : ClO g o := by
              refine ⟨eof, fun p hp pre post y t e ht hh => ?_, fun p hp pre post y t e ht hn hh => ?_⟩
              · refine (d4 p hp).2.2 pre post y e (by rw [e]; simp) t (by omega) ?_
                unfold behindQ
                rw [decide_eq_true ht, rowF_congr (n := n) (n' := nullF g) (f := f) (f' := firstF g) fun s hs hst => ⟨en' _ ((ok.sym _ hp s (hin p hp pre post y e s hs)).2 hst), ef' _ _ ((ok.sym _ hp s (hin p hp pre post y e s hs)).2 hst) ht⟩, hh]
                rfl
              · refine (d4 p hp).2.2 pre post y e (by rw [e]; simp) t ht ?_
                unfold behindQ
                rw [rowN_congr (n := n) (n' := nullF g) fun s hs hst => en' _ ((ok.sym _ hp s (hin p hp pre post y e s hs)).2 hst), hn, hh]
                simp
            have := followP_of cl hj (followF_iff.1 hnf)
            rw [← d3 i j hi hj, hp] at this; cases this
      apply R33_2
      have ks' := ks.trans rs.ks
      have qs2 := qs.ks ks' (by decide) (by decide)
      have qr2 := qr.ks ks' (by decide) (by decide)
      rw [asB_bool, obP_some, bP_false, show ldN 3 h' (.pointer (some ⟨sb, 0, none⟩)) = some (.agg ⟨setsC g nb mf mo⟩) from ldN_has (l := setsC g nb mf mo) qs2 rfl, obP_some]
      refine st_ok (c' := setsC g nb mf mo) qr2 rfl rfl rfl rfl (by omega) rfl (by show setsC g nb mf mo = c0.take 0 ++ setsC g nb mf mo ++ c0.drop (0 + 3); rw [List.take_zero, List.nil_append, Nat.zero_add, List.drop_of_length_le (by omega), List.append_nil]) ?_
      have q3 : Has (h'.upd rb (.cells (setsC g nb mf mo) 67 .exact)) rb (.cells (setsC g nb mf mo) 67 .exact) := qr2.upd_self _
      rw [show ldN 3 (h'.upd rb (.cells (setsC g nb mf mo) 67 .exact)) (.pointer (some ⟨rb, 0, none⟩)) = some (.agg ⟨setsC g nb mf mo⟩) from ldN_has (l := setsC g nb mf mo) q3 rfl, obP_some]
      refine K h' ks' ⟨rs.ss.vn.congr en, rs.ss.mf.congr ef, rs.ss.mo.congr eo, rs.ss.d1, rs.ss.d2, rs.ss.d3⟩
  induction M with
  | zero =>
    intro h n f o hm ks ss sn sf so eof
    exact step h n f o ks ss sn sf so eof fun h' n' f' o' hlt => by omega
  | succ M ih =>
    intro h n f o hm ks ss sn sf so eof
    exact step h n f o ks ss sn sf so eof fun h' n' f' o' hlt => ih h' n' f' o' (by omega)
end
/-- As app1; and where the new slice lies. -/
theorem app1b {h : DH} {n0 e by_ s : Nat} {sl r : Value} {z : List Value} {rows : List (List Value)} {cs : List Value} {F : Value → Value → DH → Prop} (hg : Grow h sl e s rows n0) (hn0 : n0 ≤ h.n)
    (hz : z.length = s) (h1 : isTup r = false) (h2 : isTopv r = false) (hcs : cellsOfV r = cs) (hl : cs.length = s) (hok : lall okCell cs = true) (hs : Nat.ble (Nat.mul 1 s) (2 ^ 24) = true) (hr : room (rows.length + 1) by_ s = true)
    (K : ∀ x v' h', Grow h' v' e s (rows ++ [cs]) n0 → Kp h h' (fun x => x ∈ blockOf sl) → (∀ b, b ∈ blockOf v' → b ∈ blockOf sl ∨ h.n ≤ b) → F x v' h') :
    oh (bldSl e s 1 z [((0, s), r)] h) fun x h25 => oh (appS e by_ s h25 sl x) fun v' h27 => F x v' h27 := by
  have hfill : fillE [((0, s), r)] (lrep z 1) = some cs := by
    have hz1 : lrep z 1 = z := by show lapp z [] = z; rw [lapp_eq]; simp
    rw [hz1]
    show guard' (sel (isTup r) false (sel (Nat.beq (llen (cellsOfV r)) s) (Nat.ble (Nat.add 0 s) (llen z)) false)) (some (splice z 0 (cellsOfV r))) = _
    rw [h1, hcs, llen_eq, llen_eq, hl, hz, Nat.beq_refl, sel_false, sel_true, show Nat.ble (Nat.add 0 s) s = true from Nat.ble_eq_true_of_le (by show 0 + s ≤ s; omega), guard'_true, splice_eq z 0 cs (by omega)]
    simp [hl, hz]
  refine bldSl_ok (by show sel (sel (isTopv r) false true) true false = true; rw [h2]; rfl) hs hfill ?_
  have x1 : Ext h (h.push (.cells cs e .exact)) := Ext.push _ _
  have hx : Has (h.push (.cells cs e .exact)) h.n (.cells cs e .exact) := Has.push_self _ _
  have hxr : RowsAt (h.push (.cells cs e .exact)) (.slice (some ⟨h.n, 0, none⟩) 1 1) e s [cs] := .inr ⟨h.n, 0, 1, [], [], .exact, rfl, Nat.le_refl _, by simpa using hx, rfl, by simpa using hl⟩
  have hg1 := hg.ext x1
  have hnn : h.n ≤ (h.push (.cells cs e .exact)).n := x1.n
  generalize hH : h.push (.cells cs e .exact) = h1' at x1 hx hxr hg1 hnn ⊢
  refine appS_grow hg1 (Nat.le_trans hn0 x1.n) hxr.appended (by simpa using hl) (by simpa using hok) hr ?_
  intro v' h2 g1 g2 g3
  exact K _ v' _ g1 (Kp.trans (h1 := h1') (Kp.mono x1 fun _ h => h.elim) g2) fun b hb => (g3 b hb).imp id fun h => by omega
theorem either_wrL {v : Value} {rd L : List Nat} {e s n0 : Nat} {rows : List (List Value)} {h : DH} (a : Grow h v e s rows n0) (hn : ∀ x, x ∈ L → x ∉ blockOf v) : either (wrOf (blockOf v) rd) ⟨some L, .none⟩ = true := by
  rcases a with ⟨rfl, rfl⟩ | ⟨b, md, rfl, h1, h2, h3, h4⟩
  · rfl
  · have hm : meets (some L) (.one b) = false := by
      show (L.any fun c => Nat.beq c b) = false
      rw [List.any_eq_false]
      intro x hx hb
      have := Nat.eq_of_beq_eq_true hb
      subst this
      exact hn x hx (by simp [blockOf])
    show (!meets (some rd) .none && !meets (some L) (.one b) && !clash (.one b) .none) = true
    rw [hm]; rfl
theorem Grow.notIn {h : DH} {v : Value} {e s n0 x e' : Nat} {rows : List (List Value)} {c : List Value} {md : Md} (a : Grow h v e s rows n0) (q : Has h x (.cells c e' md)) (hne : e ≠ e') : x ∉ blockOf v := by
  intro hb
  rcases a with ⟨rfl, rfl⟩ | ⟨b, md', rfl, h1, h2, h3, h4⟩
  · simp [blockOf] at hb
  · simp [blockOf] at hb; subst hb
    have := h2.inj q
    simp only [DBlk.cells.injEq] at this
    exact hne this.2.1
theorem RowsAt.hasB {h : DH} {v : Value} {e s : Nat} {rows : List (List Value)} (a : RowsAt h v e s rows) : ∀ x, x ∈ blockOf v → ∃ c md, Has h x (.cells c e md) := by
  intro x hx
  rcases a with ⟨rfl, rfl⟩ | ⟨b, o, cap, pre, post, md, rfl, h1, h2, h3, h4⟩
  · simp [blockOf] at hx
  · simp [blockOf] at hx; subst hx; exact ⟨_, _, h2⟩
def rows1 (k w : Nat) (bs : Nat → Nat) : List (List Value) := (List.range k).map fun j => [slb (bs j) w]
theorem rows1_flat (k w : Nat) (bs : Nat → Nat) : (rows1 k w bs).flatten = rowsL k w bs := by
  unfold rows1 rowsL
  induction k with
  | zero => rfl
  | succ k ih => rw [List.range_succ, List.map_append, List.flatten_append, ih, List.map_append]; rfl
theorem rows1_len (k w : Nat) (bs : Nat → Nat) : (rows1 k w bs).length = k := by simp [rows1]
theorem rows1_succ {k w b : Nat} {bs : Nat → Nat} : rows1 (k + 1) w (fun j => if j = k then b else bs j) = rows1 k w bs ++ [[slb b w]] := by
  unfold rows1
  rw [List.range_succ, List.map_append]
  congr 1
  · refine List.map_congr_left fun j hj => ?_
    have := List.mem_range.1 hj
    show [slb (if j = k then b else bs j) w] = _
    rw [if_neg (by omega)]
  · simp
theorem Grow.mat {h : DH} {v : Value} {n0 k w : Nat} {bs : Nat → Nat} {P : Nat → Nat → Bool} (a : Grow h v 64 1 (rows1 k w bs) n0) (hk : 0 < k) (vec : ∀ i, i < k → Vec h (bs i) w (P i)) (inj : ∀ i j, i < k → j < k → bs i = bs j → i = j) : ∃ m, v = slb m k ∧ n0 ≤ m ∧ Mat h m k w bs P := by
  rcases a with ⟨rfl, e⟩ | ⟨b, md, rfl, h1, h2, h3, h4⟩
  · have := congrArg List.length e
    rw [rows1_len] at this
    simp at this; omega
  · rw [rows1_flat] at h2
    rw [rows1_len]
    exact ⟨b, rfl, h1, ⟨md, h2⟩, vec, inj⟩
end Go.Det
end
/- lemmataref11.Reckon: the whole. -/
set_option linter.unusedVariables false
set_option linter.unusedSimpArgs false
set_option maxRecDepth 100000
noncomputable section
namespace Go.Det
open Go.Proofs

structure CSt (g : Gm) (h0 h : DH) (n0 sb nb i : Nat) (bf bo : Nat → Nat) (fv ov : Value) : Prop where
  qs : Has h sb (.cells [slb nb g.nts.length, fv, ov] 67 .exact)
  gf : Grow h fv 64 1 (rows1 i g.toks.length bf) n0
  go : Grow h ov 64 1 (rows1 i (g.toks.length + 1) bo) n0
  dj : ∀ b, b ∈ blockOf fv → b ∉ blockOf ov
  vf : ∀ j, j < i → Vec h (bf j) g.toks.length (fun _ => false) ∧ n0 ≤ bf j
  vo : ∀ j, j < i → Vec h (bo j) (g.toks.length + 1) (fun _ => false) ∧ n0 ≤ bo j
  i1 : ∀ a b, a < i → b < i → bf a = bf b → a = b
  i2 : ∀ a b, a < i → b < i → bo a = bo b → a = b
  i3 : ∀ a b, a < i → b < i → bf a ≠ bo b
  i4 : ∀ a, a < i → bf a ≠ nb ∧ bo a ≠ nb
  ks : KS n0 [] [64, 67] h0 h
  vn : Vec h nb g.nts.length (fun _ => false)
section
variable {g : Gm} {h0 : DH} {n0 gb sb rb nb : Nat} {tv nv pv : Value} {v2 : Value} {Z : Value → DH → Prop}
theorem reckon1 (ok : GmOk g) (gc : GC h0 gb tv nv pv g) (hn0 : n0 ≤ h0.n) (hsb : n0 ≤ sb)
    (K : ∀ h mf mo bf bo, KS n0 [] [64, 67] h0 h → Has h sb (.cells (setsC g nb mf mo) 67 .exact) → SS h g nb mf mo bf bo (fun _ => false) (fun _ _ => false) (fun _ _ => false) → (∀ i, i < g.nts.length → n0 ≤ bf i ∧ n0 ≤ bo i) → obP (st 1 h (.pointer (some ⟨bo 0, g.toks.length, none⟩)) (.bool true)) fun h55 => A33_2 (.pointer (some ⟨gb, 0, none⟩)) v2 (.pointer (some ⟨sb, 0, none⟩)) (.bool true) h55 Z) (w : Nat) :
    ∀ i h bf bo fv ov, g.nts.length - i ≤ w → i ≤ g.nts.length → CSt g h0 h n0 sb nb i bf bo fv ov → A33_1 (.pointer (some ⟨gb, 0, none⟩)) v2 (.pointer (some ⟨sb, 0, none⟩)) (.int .i64 (i : Int)) h Z := by
  have hnl := ok.n
  have htl := ok.t
  have done : ∀ h bf bo fv ov, CSt g h0 h n0 sb nb g.nts.length bf bo fv ov → A33_1 (.pointer (some ⟨gb, 0, none⟩)) v2 (.pointer (some ⟨sb, 0, none⟩)) (.int .i64 (g.nts.length : Int)) h Z := by
    intro h bf bo fv ov s
    apply R33_1
    have gc' := gc.ks s.ks (by decide)
    obtain ⟨mf, rfl, _, mtf⟩ := s.gf.mat (P := fun _ _ => false) (by omega) (fun i hi => (s.vf i hi).1) s.i1
    obtain ⟨mo, rfl, _, mto⟩ := s.go.mat (P := fun _ _ => false) (by omega) (fun i hi => (s.vo i hi).1) s.i2
    have h0n : 0 < g.nts.length := by omega
    simp only [fa_ptr, obP_some, gc'.ld.2.2.1, gc'.len.2.1, ibin_lss, asB_bool, show decide ((g.nts.length : Int) < (g.nts.length : Int)) = false from decide_eq_false (by omega), bP_false]
    rw [ld1_has s.qs (o := 0 + 2) (v := slb mo g.nts.length) rfl, obP_some, show (Value.int .i64 0) = .int .i64 ((0 : Nat) : Int) from rfl, iaS_slb h0n, obP_some, mto.row h0n, obP_some, gc'.ld.2.1, obP_some, gc'.len.1, obP_some, iaS_slb (by omega), obP_some]
    exact K h mf mo bf bo s.ks s.qs ⟨s.vn, mtf, mto, fun i hi => (s.i4 i hi).1, fun i hi => (s.i4 i hi).2, s.i3⟩ fun i hi => ⟨(s.vf i hi).2, (s.vo i hi).2⟩
  induction w with
  | zero =>
    intro i h bf bo fv ov hw hi s
    have : i = g.nts.length := by omega
    subst this; exact done h bf bo fv ov s
  | succ w ih =>
    intro i h bf bo fv ov hw hi s
    by_cases hlt : i < g.nts.length
    · apply R33_1
      have gc' := gc.ks s.ks (by decide)
      rw [fa_ptr, obP_some, gc'.ld.2.2.1, obP_some, gc'.len.2.1, obP_some, ibin_lss, obP_some, asB_bool, obP_some, show decide ((i : Int) < (g.nts.length : Int)) = true from decide_eq_true (by omega), bP_true, fa_ptr, obP_some, ld1_has s.qs (o := 0 + 1) (v := fv) rfl, obP_some, fa_ptr, obP_some, gc'.ld.2.1, obP_some, gc'.len.1, obP_some]
      refine mkS_ok (Nat.le_refl _) (by omega) (by omega) ?_
      rw [← bitsL_lrep]
      have hnh : n0 ≤ h.n := Nat.le_trans hn0 s.ks.n
      have e1 := Ext.push h (.cells (bitsL g.toks.length fun _ => false) 4 .exact)
      have v1 : Vec (h.push (.cells (bitsL g.toks.length fun _ => false) 4 .exact)) h.n g.toks.length (fun _ => false) := Has.push_self _ _
      generalize h.push (.cells (bitsL g.toks.length fun _ => false) 4 .exact) = h1 at e1 v1 ⊢
      have gf1 := s.gf.ext e1
      have go1 := s.go.ext e1
      have qs1 := s.qs.ext e1
      have gc1 := gc'.ext e1
      refine app1b gf1 (Nat.le_trans hnh e1.n) rfl rfl rfl rfl rfl rfl (by decide) (room_ok (by rw [rows1_len]; omega) (by rw [rows1_len]; omega) (by omega)) fun x1 fv2 h2 gf2 f2 hb2 => ?_
      have k2 : KS n0 [] [64] h1 h2 := KS.grow gf1 f2 (by simp)
      have go2 : Grow h2 ov 64 1 (rows1 i (g.toks.length + 1) bo) n0 := go1.kp f2 fun b hb hb' => s.dj b hb' hb
      have qs2 := qs1.ks k2 (by decide) (by decide)
      have gc2 := gc1.ks k2 (by decide)
      have v12 : Vec h2 h.n g.toks.length (fun _ => false) := Has.ks v1 k2 (by decide) (by decide)
      rw [fa_ptr, obP_some, ld1_has qs2 (o := 0 + 2) (v := ov) rfl, obP_some, obP_some, gc2.ld.2.1, obP_some, gc2.len.1, obP_some, ibin_inc (by omega), obP_some]
      refine mkS_ok (Nat.le_refl _) (by omega) (by omega) ?_
      rw [← bitsL_lrep]
      have e3 := Ext.push h2 (.cells (bitsL (g.toks.length + 1) fun _ => false) 4 .exact)
      have v3 : Vec (h2.push (.cells (bitsL (g.toks.length + 1) fun _ => false) 4 .exact)) h2.n (g.toks.length + 1) (fun _ => false) := Has.push_self _ _
      generalize h2.push (.cells (bitsL (g.toks.length + 1) fun _ => false) 4 .exact) = h3 at e3 v3 ⊢
      have gf3 := gf2.ext e3
      have go3 := go2.ext e3
      have hn2 : h.n < h2.n := v12.1
      refine app1b go3 (Nat.le_trans hnh (Nat.le_trans (Nat.le_of_lt hn2) e3.n)) rfl rfl rfl rfl rfl rfl (by decide) (room_ok (by rw [rows1_len]; omega) (by rw [rows1_len]; omega) (by omega)) fun x3 ov4 h4 go4 f4 hb4 => ?_
      have k4 : KS n0 [] [64] h3 h4 := KS.grow go3 f4 (by simp)
      have hov : ∀ b, b ∈ blockOf ov → b < h.n := fun b hb => (s.go.block b hb).2
      have hfv2 : ∀ b, b ∈ blockOf fv2 → b < h2.n := fun b hb => (gf2.block b hb).2
      have gf4 : Grow h4 fv2 64 1 (rows1 i g.toks.length bf ++ [[slb h.n g.toks.length]]) n0 := gf3.kp f4 fun b hb hb' => by
        rcases hb2 b hb with h | h
        · exact s.dj b h hb'
        · have := hov b hb'; have := e1.n; omega
      have dj4 : ∀ b, b ∈ blockOf fv2 → b ∉ blockOf ov4 := by
        intro b hb hb'
        rcases hb4 b hb' with h' | h'
        · rcases hb2 b hb with h | h
          · exact s.dj b h h'
          · have := hov b h'; have := e1.n; omega
        · have := hfv2 b hb; have := e3.n; omega
      have k24 : KS n0 [] [64] h2 h4 := (KS.ext e3).trans k4
      have qs4 := qs2.ks k24 (by decide) (by decide)
      have sf := isSl_facts gf4.rows.isSl
      have so := isSl_facts go4.rows.isSl
      rw [obP_some]
      refine st_ok (c' := [slb nb g.nts.length, fv2, ov]) qs4 rfl sf.2.1 sf.2.2.1 (by rw [sf.2.2.2]; rfl) (by simp) (by rw [sf.2.2.2]; show sel (okCell fv2) true false = true; rw [sf.1]; rfl) (by rw [sf.2.2.2]; rfl) ?_
      have k5 : KS n0 [] [67] h4 (h4.upd sb (.cells [slb nb g.nts.length, fv2, ov] 67 .exact)) := KS.upd _ qs4 hsb (by simp)
      have qs5 : Has (h4.upd sb (.cells [slb nb g.nts.length, fv2, ov] 67 .exact)) sb (.cells [slb nb g.nts.length, fv2, ov] 67 .exact) := qs4.upd_self _
      generalize h4.upd sb (.cells [slb nb g.nts.length, fv2, ov] 67 .exact) = h5 at k5 qs5 ⊢
      rw [obP_some]
      refine st_ok (c' := [slb nb g.nts.length, fv2, ov4]) qs5 rfl so.2.1 so.2.2.1 (by rw [so.2.2.2]; rfl) (by simp) (by rw [so.2.2.2]; show sel (okCell ov4) true false = true; rw [so.1]; rfl) (by rw [so.2.2.2]; rfl) ?_
      have k6 : KS n0 [] [67] h5 (h5.upd sb (.cells [slb nb g.nts.length, fv2, ov4] 67 .exact)) := KS.upd _ qs5 hsb (by simp)
      have qs6 : Has (h5.upd sb (.cells [slb nb g.nts.length, fv2, ov4] 67 .exact)) sb (.cells [slb nb g.nts.length, fv2, ov4] 67 .exact) := qs5.upd_self _
      generalize h5.upd sb (.cells [slb nb g.nts.length, fv2, ov4] 67 .exact) = h6 at k6 qs6 ⊢
      have k46 := k5.trans k6
      have k26 : KS n0 [] [64, 67] h2 h6 := (k24.mono (by simp) (by simp)).trans (k46.mono (by simp) (by simp))
      have k06 : KS n0 [] [64, 67] h h6 := ((KS.ext e1 : KS n0 [] [64, 67] h h1).trans (k2.mono (by simp) (by simp))).trans k26
      have k36 : KS n0 [] [64, 67] h3 h6 := (k4.mono (by simp) (by simp)).trans (k46.mono (by simp) (by simp))
      have htv : ∀ x, x ∈ blockOf tv → x ∉ blockOf fv := fun x hx => by
        obtain ⟨c, md, q⟩ := gc'.2.parts.1.hasB x hx
        exact s.gf.notIn q (by decide)
      refine ⟨⟨either_wrL s.gf (fun x hx => ?_), either_wrL s.gf (fun x hx => ?_), either_wrL s.gf htv⟩, ?_⟩
      · simp [blockOf] at hx; subst hx; exact s.gf.notIn s.qs (by decide)
      · simp [blockOf] at hx; subst hx; exact s.gf.notIn gc'.1 (by decide)
      rw [ibin_inc (by omega), obP_some]
      have v26 : Vec h6 h.n g.toks.length (fun _ => false) := Has.ks v12 k26 (by decide) (by decide)
      have v36 : Vec h6 h2.n (g.toks.length + 1) (fun _ => false) := Has.ks v3 k36 (by decide) (by decide)
      have hbf : ∀ j, j < i → bf j < h.n := fun j hj => (s.vf j hj).1.1
      have hbo : ∀ j, j < i → bo j < h.n := fun j hj => (s.vo j hj).1.1
      have hnb : nb < h.n := s.vn.1
      have cs : ∀ j, j < i + 1 → j < i ∨ j = i := fun j hj => by omega
      refine ih (i + 1) h6 (fun j => if j = i then h.n else bf j) (fun j => if j = i then h2.n else bo j) fv2 ov4 (by omega) hlt ⟨qs6, by rw [rows1_succ]; exact gf4.ks k46 (by decide) (by decide), by rw [rows1_succ]; exact go4.ks k46 (by decide) (by decide), dj4, fun j hj => ?_, fun j hj => ?_, fun a b ha hb he => ?_, fun a b ha hb he => ?_, fun a b ha hb he => ?_, fun a ha => ?_, s.ks.trans k06, Has.ks s.vn k06 (by decide) (by decide)⟩
      · rcases cs j hj with h1 | rfl
        · simp only [if_neg (show ¬ j = i by omega)]
          exact ⟨Has.ks (s.vf j h1).1 k06 (by decide) (by decide), (s.vf j h1).2⟩
        · simp only [if_pos]; exact ⟨v26, hnh⟩
      · rcases cs j hj with h1 | rfl
        · simp only [if_neg (show ¬ j = i by omega)]
          exact ⟨Has.ks (s.vo j h1).1 k06 (by decide) (by decide), (s.vo j h1).2⟩
        · simp only [if_pos]; exact ⟨v36, by omega⟩
      · rcases cs a ha with h1 | rfl <;> rcases cs b hb with h2 | rfl
        · simp only [if_neg (show ¬ a = i by omega), if_neg (show ¬ b = i by omega)] at he; exact s.i1 a b h1 h2 he
        · simp only [if_neg (show ¬ a = b by omega), if_pos] at he; have := hbf a h1; omega
        · simp only [if_neg (show ¬ b = a by omega), if_pos] at he; have := hbf b h2; omega
        · rfl
      · rcases cs a ha with h1 | rfl <;> rcases cs b hb with h2 | rfl
        · simp only [if_neg (show ¬ a = i by omega), if_neg (show ¬ b = i by omega)] at he; exact s.i2 a b h1 h2 he
        · simp only [if_neg (show ¬ a = b by omega), if_pos] at he; have := hbo a h1; omega
        · simp only [if_neg (show ¬ b = a by omega), if_pos] at he; have := hbo b h2; omega
        · rfl
      · rcases cs a ha with h1 | rfl <;> rcases cs b hb with h2 | rfl
        · simp only [if_neg (show ¬ a = i by omega), if_neg (show ¬ b = i by omega)] at he; exact s.i3 a b h1 h2 he
        · simp only [if_neg (show ¬ a = b by omega), if_pos] at he; have := hbf a h1; omega
        · simp only [if_neg (show ¬ b = a by omega), if_pos] at he; have := hbo b h2; omega
        · simp only [if_pos] at he; omega
      · rcases cs a ha with h1 | rfl
        · simp only [if_neg (show ¬ a = i by omega)]; exact s.i4 a h1
        · simp only [if_pos]; exact ⟨by omega, by omega⟩
    · have : i = g.nts.length := by omega
      subst this; exact done h bf bo fv ov s
end
theorem reckon_ok {h : DH} {v : Value} {g : Gm} {Z : Value → DH → Prop} (ok : GmOk g) (a : GmAt h v g) (K : ∀ h' nb mf mo bf bo, Ext h h' → SS h' g nb mf mo bf bo (nullF g) (firstF g) (followF g) → Z (.agg ⟨setsC g nb mf mo⟩) h') : CP Try.prog 33 [v] h Z := by
  apply R33
  have hnl := ok.n
  have htl := ok.t
  refine a.boxed fun h1 tv nv pv _ q1 a1 e1 => ?_
  have c1 : GC h1 h.n tv nv pv g := ⟨q1, a1⟩
  generalize h.n = gb at q1 c1 ⊢
  rw [al_ok, oh_some]
  have e2 := Ext.push h1 (.cells [(Value.slice none 0 0), (Value.slice none 0 0), (Value.slice none 0 0)] 67 .exact)
  have q2 : Has (h1.push (.cells [(Value.slice none 0 0), (Value.slice none 0 0), (Value.slice none 0 0)] 67 .exact)) h1.n (.cells [(Value.slice none 0 0), (Value.slice none 0 0), (Value.slice none 0 0)] 67 .exact) := Has.push_self _ _
  generalize h1.push (.cells [(Value.slice none 0 0), (Value.slice none 0 0), (Value.slice none 0 0)] 67 .exact) = h2 at e2 q2 ⊢
  have c2 := c1.ext e2
  rw [fa_ptr, obP_some, c2.ld.2.2.1, obP_some, c2.len.2.1, obP_some]
  refine mkS_ok (Nat.le_refl _) (by omega) (by omega) ?_
  rw [← bitsL_lrep]
  have e3 := Ext.push h2 (.cells (bitsL g.nts.length fun _ => false) 4 .exact)
  have v3 : Vec (h2.push (.cells (bitsL g.nts.length fun _ => false) 4 .exact)) h2.n g.nts.length (fun _ => false) := Has.push_self _ _
  generalize h2.push (.cells (bitsL g.nts.length fun _ => false) 4 .exact) = h3 at e3 v3 ⊢
  refine obP_of (a := .agg ⟨[slb h2.n g.nts.length, .slice none 0 0, .slice none 0 0]⟩) rfl ?_
  refine al_st (cs := [slb h2.n g.nts.length, .slice none 0 0, .slice none 0 0]) rfl rfl rfl fun h4 e4 q4 => ?_
  have e24 := e3.trans e4
  have hrb : h1.n < h2.n := q2.1
  have hsb : h2.n < h3.n := v3.1
  have c4 := c2.ext e24
  refine reckon1 (n0 := h2.n) ok c4 e24.n (Nat.le_of_lt hsb) (fun h5 mf mo bf bo k5 q5 ss hb => ?_) _ 0 h4 (fun _ => 0) (fun _ => 0) _ _ (Nat.le_refl _) (Nat.zero_le _) ⟨q4, .nil _ _ _ _, .nil _ _ _ _, (fun b hb => by simp [blockOf] at hb), (fun j hj => by omega), (fun j hj => by omega), (fun a b ha => by omega), (fun a b ha => by omega), (fun a b ha => by omega), (fun a ha => by omega), KS.refl _ _ _ _, v3.ext e4⟩
  refine (ss.mo.vec 0 hnl.1).st (by omega) fun h6 v6 f6 => ?_
  have k6 : KS h2.n [] [4] h5 h6 := (ss.mo.vec 0 hnl.1).ks (hb 0 hnl.1).2 f6
  have ss6 := ss.updO hnl.1 f6 v6
  have c5 := c4.ks k5 (by decide)
  have q25 := (q2.ext e24).old k5 (by decide) hrb
  have hnb2 : h2.n ≤ h2.n := Nat.le_refl _
  refine reckon2 ok hnb2 hb c5 q5 rfl q25 (by omega) (fun h7 k7 ss7 => ?_) _ h6 _ _ _ (Nat.le_refl _) k6 ss6 (fun j _ hp => by cases hp) (fun i j _ _ hp => by cases hp) (fun i j hi hj hp => ?_) (by simp)
  · have q27 := q25.ks k7 (by decide) (by decide)
    have k8 : KS h1.n [] [67] h7 (h7.upd h1.n (.cells (setsC g h2.n mf mo) 67 .exact)) := KS.upd _ q27 (Nat.le_refl _) (by simp)
    refine K _ h2.n mf mo bf bo (e1.trans (KS.toExt (n0 := h1.n) (ts := [4, 64, 67]) ?_ (Nat.le_refl _))) (ss7.ks k8 (by simp))
    exact (((KS.ext (e2.trans e24) : KS h1.n [] [4, 64, 67] h1 h4).trans ((k5.from (Nat.le_of_lt hrb)).mono (by simp) (by simp))).trans ((k7.from (Nat.le_of_lt hrb)).mono (by simp) (by simp))).trans (k8.mono (by simp) (by simp))
  · by_cases he : i = 0
    · subst he
      simp only [if_pos, Bool.or_false, beq_iff_eq] at hp
      subst hp; exact .eof
    · simp only [if_neg he] at hp; cases hp
end Go.Det
end
/- lemmataplay.Sums: the walk (most of it PRINTED by tools/sums.py). -/
set_option linter.unusedVariables false
set_option linter.unusedSimpArgs false
set_option maxRecDepth 100000
noncomputable section
namespace Go.Det
open Go.Proofs

theorem tok_ok {h : DH} {a : Int} {Z : Value → DH → Prop} (K : ∀ h', Ext h h' → Z (.agg ⟨[.bool true, .int .i64 a]⟩) h') : CP Try.prog 71 [.int .i64 a] h Z := by
  apply R71
  rw [al_ok, oh_some]
  refine obP_of (a := .agg ⟨[.bool true, .int .i64 a]⟩) rfl ?_
  refine st_ok (c' := [.bool true, .int .i64 a]) (Has.push_self _ _) rfl rfl rfl rfl (by simp) rfl rfl ?_
  refine obP_of (ldN_has (l := [.bool true, .int .i64 a]) (Has.upd_self (Has.push_self _ _) _) rfl) ?_
  exact K _ ((Ext.push _ _).trans' (Kp.upd (S := fun b => h.n ≤ b) _ (.inl (Nat.le_refl _))) fun x hx => .inr hx)
theorem row8 {r : List Value} (k : OkRow 8 r) : ∃ x0 x1 x2 x3 x4 x5 x6 x7, r = [x0, x1, x2, x3, x4, x5, x6, x7] := by
  obtain ⟨hl, _⟩ := k
  match r, hl with
  | [x0, x1, x2, x3, x4, x5, x6, x7], _ => exact ⟨x0, x1, x2, x3, x4, x5, x6, x7, rfl⟩
def gmOkB (g : Gm) : Bool := decide (1 ≤ g.toks.length ∧ g.toks.length ≤ 8) && decide (1 ≤ g.nts.length ∧ g.nts.length ≤ 8) && decide (1 ≤ g.prods.length ∧ g.prods.length ≤ 16) && namesB (g.toks.map Tk.name ++ g.nts.map Ntm.name) &&
  (g.nts.all fun t => decide ((t.inh ++ t.syn).length ≤ 4) && namesB (t.inh ++ t.syn)) &&
  g.prods.all fun p => decide (p.left < g.nts.length) && decide (p.right.length ≤ 5) && p.right.all fun s => if s.tok then (match g.toks[s.at_]? with | some t => !t.skip | none => false) else decide (s.at_ < g.nts.length)
theorem gmOkB_iff {g : Gm} (h : gmOkB g = true) : GmOk g := by
  unfold gmOkB at h
  simp only [Bool.and_eq_true, List.all_eq_true, decide_eq_true_eq] at h
  obtain ⟨⟨⟨⟨⟨h1, h2⟩, h3⟩, h4⟩, h5⟩, h6⟩ := h
  have h4 := namesB_iff h4
  refine ⟨h1, h2, h3, h4.1, h4.2, fun t ht => ⟨(h5 t ht).1, (namesB_iff (h5 t ht).2).1, (namesB_iff (h5 t ht).2).2⟩, fun p hp => (h6 p hp).1.1, fun p hp => (h6 p hp).1.2, fun p hp s hs => ?_⟩
  have := (h6 p hp).2 s hs
  cases ht : s.tok with
  | true =>
    rw [ht] at this
    simp only [if_true] at this
    refine ⟨fun _ => ?_, (fun h => by rw [ht] at h; cases h)⟩
    cases hg : g.toks[s.at_]? with
    | none => rw [hg] at this; cases this
    | some t => rw [hg] at this; exact ⟨t, rfl, by simpa using this⟩
  | false =>
    rw [ht] at this
    simp only [Bool.false_eq_true, if_false, decide_eq_true_eq] at this
    exact ⟨(fun h => by rw [ht] at h; cases h), fun _ => this⟩
theorem rows_of {h : DH} {b e s : Nat} {cs : List Value} {md : Md} {rows : List (List Value)} (q : Has h b (.cells cs e md)) (hf : rows.flatten = cs) (hl : ∀ r, r ∈ rows → r.length = s) {n : Nat} (hn : n = rows.length) : RowsAt h (.slice (some ⟨b, 0, none⟩) n n) e s rows := by
  subst hf; subst hn
  exact .inr ⟨b, 0, rows.length, [], [], md, rfl, Nat.le_refl _, by simpa using q, rfl, hl⟩
def sumsT : List Tk := [⟨⟨#[110, 117, 109]⟩, ⟨#[91, 48, 45, 57, 93, 43]⟩, false⟩, ⟨⟨#[105, 100]⟩, ⟨#[91, 97, 45, 122, 93, 43]⟩, false⟩, ⟨⟨#[112, 108, 117, 115]⟩, ⟨#[92, 43]⟩, false⟩, ⟨⟨#[115, 116, 97, 114]⟩, ⟨#[92, 42]⟩, false⟩, ⟨⟨#[111, 112, 101, 110]⟩, ⟨#[92, 40]⟩, false⟩, ⟨⟨#[99, 108, 111, 115, 101]⟩, ⟨#[92, 41]⟩, false⟩, ⟨⟨#[98, 108, 97, 110, 107]⟩, ⟨#[32, 43]⟩, true⟩, ⟨⟨#[108, 101, 116]⟩, ⟨#[61]⟩, false⟩]
def sumsN : List Ntm := [⟨⟨#[115]⟩, [], [⟨#[118, 97, 108]⟩, ⟨#[98, 97, 100]⟩]⟩, ⟨⟨#[101]⟩, [⟨#[101, 110, 118]⟩], [⟨#[118, 97, 108]⟩]⟩, ⟨⟨#[109, 111, 114, 101]⟩, [⟨#[101, 110, 118]⟩, ⟨#[108, 101, 102, 116]⟩], [⟨#[118, 97, 108]⟩]⟩, ⟨⟨#[102]⟩, [⟨#[101, 110, 118]⟩], [⟨#[118, 97, 108]⟩, ⟨#[115, 105, 122, 101]⟩]⟩]
def sumsP : List Pd := [⟨0, [⟨false, 1⟩]⟩, ⟨1, [⟨false, 3⟩, ⟨false, 2⟩]⟩, ⟨2, [⟨true, 2⟩, ⟨false, 3⟩, ⟨false, 2⟩]⟩, ⟨2, []⟩, ⟨3, [⟨true, 0⟩]⟩, ⟨3, [⟨true, 1⟩]⟩, ⟨3, [⟨true, 4⟩, ⟨false, 1⟩, ⟨true, 5⟩]⟩]
def letP : Pd := ⟨3, [⟨true, 7⟩, ⟨true, 1⟩, ⟨false, 3⟩, ⟨false, 3⟩]⟩
def sumsG (k : Nat) : Gm := ⟨sumsT, sumsN, if k = 1 then sumsP ++ [letP] else sumsP⟩
theorem sums_may (k : Nat) : GmOk (sumsG k) := by
  by_cases h : k = 1
  · subst h; exact gmOkB_iff (by kernel_rfl)
  · have : sumsG k = sumsG 0 := by unfold sumsG; rw [if_neg h, if_neg (by omega)]
    rw [this]; exact gmOkB_iff (by kernel_rfl)
theorem sums_ok {h : DH} {n : Nat} {Z : Value → DH → Prop} (K : ∀ v h', Ext h h' → GmAt h' v (sumsG (n % 4)) → Z v h') : CP Try.prog 32 [.int .i64 (n : Int)] h Z := by
  apply R32
  rw [al_ok, oh_some]
  have e1 := Ext.push h (.cells [(Value.slice none 0 0), (Value.slice none 0 0), (Value.slice none 0 0)] 28 .exact)
  have q1 : Has (h.push (.cells [(Value.slice none 0 0), (Value.slice none 0 0), (Value.slice none 0 0)] 28 .exact)) h.n (.cells [(Value.slice none 0 0), (Value.slice none 0 0), (Value.slice none 0 0)] 28 .exact) := Has.push_self _ _
  obtain ⟨b1, hb1⟩ : ∃ x, x = h.n := ⟨_, rfl⟩
  rw [← hb1] at q1 ⊢
  generalize h.push (.cells [(Value.slice none 0 0), (Value.slice none 0 0), (Value.slice none 0 0)] 28 .exact) = H1 at e1 q1 ⊢
  obtain ⟨N, hNe⟩ : ∃ x, x = H1.n := ⟨_, rfl⟩
  refine obP_of (a := .agg ⟨[(Value.string ⟨#[110, 117, 109]⟩), (Value.string ⟨#[91, 48, 45, 57, 93, 43]⟩), (Value.bool false)]⟩) rfl ?_
  refine obP_of (a := .agg ⟨[(Value.string ⟨#[105, 100]⟩), (Value.string ⟨#[91, 97, 45, 122, 93, 43]⟩), (Value.bool false)]⟩) rfl ?_
  refine obP_of (a := .agg ⟨[(Value.string ⟨#[112, 108, 117, 115]⟩), (Value.string ⟨#[92, 43]⟩), (Value.bool false)]⟩) rfl ?_
  refine obP_of (a := .agg ⟨[(Value.string ⟨#[115, 116, 97, 114]⟩), (Value.string ⟨#[92, 42]⟩), (Value.bool false)]⟩) rfl ?_
  refine obP_of (a := .agg ⟨[(Value.string ⟨#[111, 112, 101, 110]⟩), (Value.string ⟨#[92, 40]⟩), (Value.bool false)]⟩) rfl ?_
  refine obP_of (a := .agg ⟨[(Value.string ⟨#[99, 108, 111, 115, 101]⟩), (Value.string ⟨#[92, 41]⟩), (Value.bool false)]⟩) rfl ?_
  refine obP_of (a := .agg ⟨[(Value.string ⟨#[98, 108, 97, 110, 107]⟩), (Value.string ⟨#[91, 32, 92, 45, 93, 43]⟩), (Value.bool true)]⟩) rfl ?_
  refine obP_of (a := .agg ⟨[(Value.string ⟨#[108, 101, 116]⟩), (Value.string ⟨#[61]⟩), (Value.bool false)]⟩) rfl ?_
  refine bldSl_ok (cs := [(Value.string ⟨#[110, 117, 109]⟩), (Value.string ⟨#[91, 48, 45, 57, 93, 43]⟩), (Value.bool false), (Value.string ⟨#[105, 100]⟩), (Value.string ⟨#[91, 97, 45, 122, 93, 43]⟩), (Value.bool false), (Value.string ⟨#[112, 108, 117, 115]⟩), (Value.string ⟨#[92, 43]⟩), (Value.bool false), (Value.string ⟨#[115, 116, 97, 114]⟩), (Value.string ⟨#[92, 42]⟩), (Value.bool false), (Value.string ⟨#[111, 112, 101, 110]⟩), (Value.string ⟨#[92, 40]⟩), (Value.bool false), (Value.string ⟨#[99, 108, 111, 115, 101]⟩), (Value.string ⟨#[92, 41]⟩), (Value.bool false), (Value.string ⟨#[98, 108, 97, 110, 107]⟩), (Value.string ⟨#[91, 32, 92, 45, 93, 43]⟩), (Value.bool true), (Value.string ⟨#[108, 101, 116]⟩), (Value.string ⟨#[61]⟩), (Value.bool false)]) rfl rfl rfl ?_
  have e2 := Ext.push H1 (.cells [(Value.string ⟨#[110, 117, 109]⟩), (Value.string ⟨#[91, 48, 45, 57, 93, 43]⟩), (Value.bool false), (Value.string ⟨#[105, 100]⟩), (Value.string ⟨#[91, 97, 45, 122, 93, 43]⟩), (Value.bool false), (Value.string ⟨#[112, 108, 117, 115]⟩), (Value.string ⟨#[92, 43]⟩), (Value.bool false), (Value.string ⟨#[115, 116, 97, 114]⟩), (Value.string ⟨#[92, 42]⟩), (Value.bool false), (Value.string ⟨#[111, 112, 101, 110]⟩), (Value.string ⟨#[92, 40]⟩), (Value.bool false), (Value.string ⟨#[99, 108, 111, 115, 101]⟩), (Value.string ⟨#[92, 41]⟩), (Value.bool false), (Value.string ⟨#[98, 108, 97, 110, 107]⟩), (Value.string ⟨#[91, 32, 92, 45, 93, 43]⟩), (Value.bool true), (Value.string ⟨#[108, 101, 116]⟩), (Value.string ⟨#[61]⟩), (Value.bool false)] 99 .exact)
  have q2 : Has (H1.push (.cells [(Value.string ⟨#[110, 117, 109]⟩), (Value.string ⟨#[91, 48, 45, 57, 93, 43]⟩), (Value.bool false), (Value.string ⟨#[105, 100]⟩), (Value.string ⟨#[91, 97, 45, 122, 93, 43]⟩), (Value.bool false), (Value.string ⟨#[112, 108, 117, 115]⟩), (Value.string ⟨#[92, 43]⟩), (Value.bool false), (Value.string ⟨#[115, 116, 97, 114]⟩), (Value.string ⟨#[92, 42]⟩), (Value.bool false), (Value.string ⟨#[111, 112, 101, 110]⟩), (Value.string ⟨#[92, 40]⟩), (Value.bool false), (Value.string ⟨#[99, 108, 111, 115, 101]⟩), (Value.string ⟨#[92, 41]⟩), (Value.bool false), (Value.string ⟨#[98, 108, 97, 110, 107]⟩), (Value.string ⟨#[91, 32, 92, 45, 93, 43]⟩), (Value.bool true), (Value.string ⟨#[108, 101, 116]⟩), (Value.string ⟨#[61]⟩), (Value.bool false)] 99 .exact)) H1.n (.cells [(Value.string ⟨#[110, 117, 109]⟩), (Value.string ⟨#[91, 48, 45, 57, 93, 43]⟩), (Value.bool false), (Value.string ⟨#[105, 100]⟩), (Value.string ⟨#[91, 97, 45, 122, 93, 43]⟩), (Value.bool false), (Value.string ⟨#[112, 108, 117, 115]⟩), (Value.string ⟨#[92, 43]⟩), (Value.bool false), (Value.string ⟨#[115, 116, 97, 114]⟩), (Value.string ⟨#[92, 42]⟩), (Value.bool false), (Value.string ⟨#[111, 112, 101, 110]⟩), (Value.string ⟨#[92, 40]⟩), (Value.bool false), (Value.string ⟨#[99, 108, 111, 115, 101]⟩), (Value.string ⟨#[92, 41]⟩), (Value.bool false), (Value.string ⟨#[98, 108, 97, 110, 107]⟩), (Value.string ⟨#[91, 32, 92, 45, 93, 43]⟩), (Value.bool true), (Value.string ⟨#[108, 101, 116]⟩), (Value.string ⟨#[61]⟩), (Value.bool false)] 99 .exact) := Has.push_self _ _
  obtain ⟨b2, hb2⟩ : ∃ x, x = H1.n := ⟨_, rfl⟩
  rw [← hb2] at q2 ⊢
  have hb2 : N ≤ b2 := by omega
  generalize H1.push (.cells [(Value.string ⟨#[110, 117, 109]⟩), (Value.string ⟨#[91, 48, 45, 57, 93, 43]⟩), (Value.bool false), (Value.string ⟨#[105, 100]⟩), (Value.string ⟨#[91, 97, 45, 122, 93, 43]⟩), (Value.bool false), (Value.string ⟨#[112, 108, 117, 115]⟩), (Value.string ⟨#[92, 43]⟩), (Value.bool false), (Value.string ⟨#[115, 116, 97, 114]⟩), (Value.string ⟨#[92, 42]⟩), (Value.bool false), (Value.string ⟨#[111, 112, 101, 110]⟩), (Value.string ⟨#[92, 40]⟩), (Value.bool false), (Value.string ⟨#[99, 108, 111, 115, 101]⟩), (Value.string ⟨#[92, 41]⟩), (Value.bool false), (Value.string ⟨#[98, 108, 97, 110, 107]⟩), (Value.string ⟨#[91, 32, 92, 45, 93, 43]⟩), (Value.bool true), (Value.string ⟨#[108, 101, 116]⟩), (Value.string ⟨#[61]⟩), (Value.bool false)] 99 .exact) = H2 at e2 q2 ⊢
  refine obP_of (a := .agg ⟨[(Value.slice (some ⟨b2, 0, none⟩) 8 8), (Value.slice none 0 0), (Value.slice none 0 0)]⟩) rfl ?_
  refine al_st (cs := [(Value.slice (some ⟨b2, 0, none⟩) 8 8), (Value.slice none 0 0), (Value.slice none 0 0)]) rfl rfl rfl fun H3 e3 q3 => ?_
  obtain ⟨b3, hb3⟩ : ∃ x, x = H2.n := ⟨_, rfl⟩
  rw [← hb3] at q3 ⊢
  have hb3 : N ≤ b3 := by have := e2.n; omega
  rw [fa_ptr, obP_some]
  refine obP_of (ld1_has q3 (o := 0 + 0) rfl) ?_
  refine obP_of (a := .pointer (some ⟨b2, 18, none⟩)) rfl ?_
  rw [fa_ptr, obP_some]
  have t4 := q2.ks (n0 := N) (o := []) (ts := [28]) (KS.ext e3) (by decide) (by decide)
  refine st_ok (c' := [(Value.string ⟨#[110, 117, 109]⟩), (Value.string ⟨#[91, 48, 45, 57, 93, 43]⟩), (Value.bool false), (Value.string ⟨#[105, 100]⟩), (Value.string ⟨#[91, 97, 45, 122, 93, 43]⟩), (Value.bool false), (Value.string ⟨#[112, 108, 117, 115]⟩), (Value.string ⟨#[92, 43]⟩), (Value.bool false), (Value.string ⟨#[115, 116, 97, 114]⟩), (Value.string ⟨#[92, 42]⟩), (Value.bool false), (Value.string ⟨#[111, 112, 101, 110]⟩), (Value.string ⟨#[92, 40]⟩), (Value.bool false), (Value.string ⟨#[99, 108, 111, 115, 101]⟩), (Value.string ⟨#[92, 41]⟩), (Value.bool false), (Value.string ⟨#[98, 108, 97, 110, 107]⟩), (Value.string ⟨#[32, 43]⟩), (Value.bool true), (Value.string ⟨#[108, 101, 116]⟩), (Value.string ⟨#[61]⟩), (Value.bool false)]) t4 rfl rfl rfl rfl (by simp) rfl rfl ?_
  have k4 : KS N [] [99] H3 (H3.upd b2 (.cells [(Value.string ⟨#[110, 117, 109]⟩), (Value.string ⟨#[91, 48, 45, 57, 93, 43]⟩), (Value.bool false), (Value.string ⟨#[105, 100]⟩), (Value.string ⟨#[91, 97, 45, 122, 93, 43]⟩), (Value.bool false), (Value.string ⟨#[112, 108, 117, 115]⟩), (Value.string ⟨#[92, 43]⟩), (Value.bool false), (Value.string ⟨#[115, 116, 97, 114]⟩), (Value.string ⟨#[92, 42]⟩), (Value.bool false), (Value.string ⟨#[111, 112, 101, 110]⟩), (Value.string ⟨#[92, 40]⟩), (Value.bool false), (Value.string ⟨#[99, 108, 111, 115, 101]⟩), (Value.string ⟨#[92, 41]⟩), (Value.bool false), (Value.string ⟨#[98, 108, 97, 110, 107]⟩), (Value.string ⟨#[32, 43]⟩), (Value.bool true), (Value.string ⟨#[108, 101, 116]⟩), (Value.string ⟨#[61]⟩), (Value.bool false)] 99 .exact)) := KS.upd _ t4 hb2 (by simp)
  have q4 : Has (H3.upd b2 (.cells [(Value.string ⟨#[110, 117, 109]⟩), (Value.string ⟨#[91, 48, 45, 57, 93, 43]⟩), (Value.bool false), (Value.string ⟨#[105, 100]⟩), (Value.string ⟨#[91, 97, 45, 122, 93, 43]⟩), (Value.bool false), (Value.string ⟨#[112, 108, 117, 115]⟩), (Value.string ⟨#[92, 43]⟩), (Value.bool false), (Value.string ⟨#[115, 116, 97, 114]⟩), (Value.string ⟨#[92, 42]⟩), (Value.bool false), (Value.string ⟨#[111, 112, 101, 110]⟩), (Value.string ⟨#[92, 40]⟩), (Value.bool false), (Value.string ⟨#[99, 108, 111, 115, 101]⟩), (Value.string ⟨#[92, 41]⟩), (Value.bool false), (Value.string ⟨#[98, 108, 97, 110, 107]⟩), (Value.string ⟨#[32, 43]⟩), (Value.bool true), (Value.string ⟨#[108, 101, 116]⟩), (Value.string ⟨#[61]⟩), (Value.bool false)] 99 .exact)) b2 (.cells [(Value.string ⟨#[110, 117, 109]⟩), (Value.string ⟨#[91, 48, 45, 57, 93, 43]⟩), (Value.bool false), (Value.string ⟨#[105, 100]⟩), (Value.string ⟨#[91, 97, 45, 122, 93, 43]⟩), (Value.bool false), (Value.string ⟨#[112, 108, 117, 115]⟩), (Value.string ⟨#[92, 43]⟩), (Value.bool false), (Value.string ⟨#[115, 116, 97, 114]⟩), (Value.string ⟨#[92, 42]⟩), (Value.bool false), (Value.string ⟨#[111, 112, 101, 110]⟩), (Value.string ⟨#[92, 40]⟩), (Value.bool false), (Value.string ⟨#[99, 108, 111, 115, 101]⟩), (Value.string ⟨#[92, 41]⟩), (Value.bool false), (Value.string ⟨#[98, 108, 97, 110, 107]⟩), (Value.string ⟨#[32, 43]⟩), (Value.bool true), (Value.string ⟨#[108, 101, 116]⟩), (Value.string ⟨#[61]⟩), (Value.bool false)] 99 .exact) := t4.upd_self _
  generalize H3.upd b2 (.cells [(Value.string ⟨#[110, 117, 109]⟩), (Value.string ⟨#[91, 48, 45, 57, 93, 43]⟩), (Value.bool false), (Value.string ⟨#[105, 100]⟩), (Value.string ⟨#[91, 97, 45, 122, 93, 43]⟩), (Value.bool false), (Value.string ⟨#[112, 108, 117, 115]⟩), (Value.string ⟨#[92, 43]⟩), (Value.bool false), (Value.string ⟨#[115, 116, 97, 114]⟩), (Value.string ⟨#[92, 42]⟩), (Value.bool false), (Value.string ⟨#[111, 112, 101, 110]⟩), (Value.string ⟨#[92, 40]⟩), (Value.bool false), (Value.string ⟨#[99, 108, 111, 115, 101]⟩), (Value.string ⟨#[92, 41]⟩), (Value.bool false), (Value.string ⟨#[98, 108, 97, 110, 107]⟩), (Value.string ⟨#[32, 43]⟩), (Value.bool true), (Value.string ⟨#[108, 101, 116]⟩), (Value.string ⟨#[61]⟩), (Value.bool false)] 99 .exact) = H4 at k4 q4 ⊢
  refine bldSl_ok (cs := [(Value.string ⟨#[118, 97, 108]⟩), (Value.string ⟨#[98, 97, 100]⟩)]) rfl rfl rfl ?_
  have e5 := Ext.push H4 (.cells [(Value.string ⟨#[118, 97, 108]⟩), (Value.string ⟨#[98, 97, 100]⟩)] 9 .exact)
  have q5 : Has (H4.push (.cells [(Value.string ⟨#[118, 97, 108]⟩), (Value.string ⟨#[98, 97, 100]⟩)] 9 .exact)) H4.n (.cells [(Value.string ⟨#[118, 97, 108]⟩), (Value.string ⟨#[98, 97, 100]⟩)] 9 .exact) := Has.push_self _ _
  obtain ⟨b5, hb5⟩ : ∃ x, x = H4.n := ⟨_, rfl⟩
  rw [← hb5] at q5 ⊢
  generalize H4.push (.cells [(Value.string ⟨#[118, 97, 108]⟩), (Value.string ⟨#[98, 97, 100]⟩)] 9 .exact) = H5 at e5 q5 ⊢
  refine obP_of (a := .agg ⟨[(Value.string ⟨#[115]⟩), (Value.slice none 0 0), (Value.slice (some ⟨b5, 0, none⟩) 2 2)]⟩) rfl ?_
  refine bldSl_ok (cs := [(Value.string ⟨#[101, 110, 118]⟩)]) rfl rfl rfl ?_
  have e6 := Ext.push H5 (.cells [(Value.string ⟨#[101, 110, 118]⟩)] 9 .exact)
  have q6 : Has (H5.push (.cells [(Value.string ⟨#[101, 110, 118]⟩)] 9 .exact)) H5.n (.cells [(Value.string ⟨#[101, 110, 118]⟩)] 9 .exact) := Has.push_self _ _
  obtain ⟨b6, hb6⟩ : ∃ x, x = H5.n := ⟨_, rfl⟩
  rw [← hb6] at q6 ⊢
  generalize H5.push (.cells [(Value.string ⟨#[101, 110, 118]⟩)] 9 .exact) = H6 at e6 q6 ⊢
  refine bldSl_ok (cs := [(Value.string ⟨#[118, 97, 108]⟩)]) rfl rfl rfl ?_
  have e7 := Ext.push H6 (.cells [(Value.string ⟨#[118, 97, 108]⟩)] 9 .exact)
  have q7 : Has (H6.push (.cells [(Value.string ⟨#[118, 97, 108]⟩)] 9 .exact)) H6.n (.cells [(Value.string ⟨#[118, 97, 108]⟩)] 9 .exact) := Has.push_self _ _
  obtain ⟨b7, hb7⟩ : ∃ x, x = H6.n := ⟨_, rfl⟩
  rw [← hb7] at q7 ⊢
  generalize H6.push (.cells [(Value.string ⟨#[118, 97, 108]⟩)] 9 .exact) = H7 at e7 q7 ⊢
  refine obP_of (a := .agg ⟨[(Value.string ⟨#[101]⟩), (Value.slice (some ⟨b6, 0, none⟩) 1 1), (Value.slice (some ⟨b7, 0, none⟩) 1 1)]⟩) rfl ?_
  refine bldSl_ok (cs := [(Value.string ⟨#[101, 110, 118]⟩), (Value.string ⟨#[108, 101, 102, 116]⟩)]) rfl rfl rfl ?_
  have e8 := Ext.push H7 (.cells [(Value.string ⟨#[101, 110, 118]⟩), (Value.string ⟨#[108, 101, 102, 116]⟩)] 9 .exact)
  have q8 : Has (H7.push (.cells [(Value.string ⟨#[101, 110, 118]⟩), (Value.string ⟨#[108, 101, 102, 116]⟩)] 9 .exact)) H7.n (.cells [(Value.string ⟨#[101, 110, 118]⟩), (Value.string ⟨#[108, 101, 102, 116]⟩)] 9 .exact) := Has.push_self _ _
  obtain ⟨b8, hb8⟩ : ∃ x, x = H7.n := ⟨_, rfl⟩
  rw [← hb8] at q8 ⊢
  generalize H7.push (.cells [(Value.string ⟨#[101, 110, 118]⟩), (Value.string ⟨#[108, 101, 102, 116]⟩)] 9 .exact) = H8 at e8 q8 ⊢
  refine bldSl_ok (cs := [(Value.string ⟨#[118, 97, 108]⟩)]) rfl rfl rfl ?_
  have e9 := Ext.push H8 (.cells [(Value.string ⟨#[118, 97, 108]⟩)] 9 .exact)
  have q9 : Has (H8.push (.cells [(Value.string ⟨#[118, 97, 108]⟩)] 9 .exact)) H8.n (.cells [(Value.string ⟨#[118, 97, 108]⟩)] 9 .exact) := Has.push_self _ _
  obtain ⟨b9, hb9⟩ : ∃ x, x = H8.n := ⟨_, rfl⟩
  rw [← hb9] at q9 ⊢
  generalize H8.push (.cells [(Value.string ⟨#[118, 97, 108]⟩)] 9 .exact) = H9 at e9 q9 ⊢
  refine obP_of (a := .agg ⟨[(Value.string ⟨#[109, 111, 114, 101]⟩), (Value.slice (some ⟨b8, 0, none⟩) 2 2), (Value.slice (some ⟨b9, 0, none⟩) 1 1)]⟩) rfl ?_
  refine bldSl_ok (cs := [(Value.string ⟨#[101, 110, 118]⟩)]) rfl rfl rfl ?_
  have e10 := Ext.push H9 (.cells [(Value.string ⟨#[101, 110, 118]⟩)] 9 .exact)
  have q10 : Has (H9.push (.cells [(Value.string ⟨#[101, 110, 118]⟩)] 9 .exact)) H9.n (.cells [(Value.string ⟨#[101, 110, 118]⟩)] 9 .exact) := Has.push_self _ _
  obtain ⟨b10, hb10⟩ : ∃ x, x = H9.n := ⟨_, rfl⟩
  rw [← hb10] at q10 ⊢
  generalize H9.push (.cells [(Value.string ⟨#[101, 110, 118]⟩)] 9 .exact) = H10 at e10 q10 ⊢
  refine bldSl_ok (cs := [(Value.string ⟨#[118, 97, 108]⟩), (Value.string ⟨#[115, 105, 122, 101]⟩)]) rfl rfl rfl ?_
  have e11 := Ext.push H10 (.cells [(Value.string ⟨#[118, 97, 108]⟩), (Value.string ⟨#[115, 105, 122, 101]⟩)] 9 .exact)
  have q11 : Has (H10.push (.cells [(Value.string ⟨#[118, 97, 108]⟩), (Value.string ⟨#[115, 105, 122, 101]⟩)] 9 .exact)) H10.n (.cells [(Value.string ⟨#[118, 97, 108]⟩), (Value.string ⟨#[115, 105, 122, 101]⟩)] 9 .exact) := Has.push_self _ _
  obtain ⟨b11, hb11⟩ : ∃ x, x = H10.n := ⟨_, rfl⟩
  rw [← hb11] at q11 ⊢
  generalize H10.push (.cells [(Value.string ⟨#[118, 97, 108]⟩), (Value.string ⟨#[115, 105, 122, 101]⟩)] 9 .exact) = H11 at e11 q11 ⊢
  refine obP_of (a := .agg ⟨[(Value.string ⟨#[102]⟩), (Value.slice (some ⟨b10, 0, none⟩) 1 1), (Value.slice (some ⟨b11, 0, none⟩) 2 2)]⟩) rfl ?_
  refine bldSl_ok (cs := [(Value.string ⟨#[115]⟩), (Value.slice none 0 0), (Value.slice (some ⟨b5, 0, none⟩) 2 2), (Value.string ⟨#[101]⟩), (Value.slice (some ⟨b6, 0, none⟩) 1 1), (Value.slice (some ⟨b7, 0, none⟩) 1 1), (Value.string ⟨#[109, 111, 114, 101]⟩), (Value.slice (some ⟨b8, 0, none⟩) 2 2), (Value.slice (some ⟨b9, 0, none⟩) 1 1), (Value.string ⟨#[102]⟩), (Value.slice (some ⟨b10, 0, none⟩) 1 1), (Value.slice (some ⟨b11, 0, none⟩) 2 2)]) rfl rfl rfl ?_
  have e12 := Ext.push H11 (.cells [(Value.string ⟨#[115]⟩), (Value.slice none 0 0), (Value.slice (some ⟨b5, 0, none⟩) 2 2), (Value.string ⟨#[101]⟩), (Value.slice (some ⟨b6, 0, none⟩) 1 1), (Value.slice (some ⟨b7, 0, none⟩) 1 1), (Value.string ⟨#[109, 111, 114, 101]⟩), (Value.slice (some ⟨b8, 0, none⟩) 2 2), (Value.slice (some ⟨b9, 0, none⟩) 1 1), (Value.string ⟨#[102]⟩), (Value.slice (some ⟨b10, 0, none⟩) 1 1), (Value.slice (some ⟨b11, 0, none⟩) 2 2)] 101 .exact)
  have q12 : Has (H11.push (.cells [(Value.string ⟨#[115]⟩), (Value.slice none 0 0), (Value.slice (some ⟨b5, 0, none⟩) 2 2), (Value.string ⟨#[101]⟩), (Value.slice (some ⟨b6, 0, none⟩) 1 1), (Value.slice (some ⟨b7, 0, none⟩) 1 1), (Value.string ⟨#[109, 111, 114, 101]⟩), (Value.slice (some ⟨b8, 0, none⟩) 2 2), (Value.slice (some ⟨b9, 0, none⟩) 1 1), (Value.string ⟨#[102]⟩), (Value.slice (some ⟨b10, 0, none⟩) 1 1), (Value.slice (some ⟨b11, 0, none⟩) 2 2)] 101 .exact)) H11.n (.cells [(Value.string ⟨#[115]⟩), (Value.slice none 0 0), (Value.slice (some ⟨b5, 0, none⟩) 2 2), (Value.string ⟨#[101]⟩), (Value.slice (some ⟨b6, 0, none⟩) 1 1), (Value.slice (some ⟨b7, 0, none⟩) 1 1), (Value.string ⟨#[109, 111, 114, 101]⟩), (Value.slice (some ⟨b8, 0, none⟩) 2 2), (Value.slice (some ⟨b9, 0, none⟩) 1 1), (Value.string ⟨#[102]⟩), (Value.slice (some ⟨b10, 0, none⟩) 1 1), (Value.slice (some ⟨b11, 0, none⟩) 2 2)] 101 .exact) := Has.push_self _ _
  obtain ⟨b12, hb12⟩ : ∃ x, x = H11.n := ⟨_, rfl⟩
  rw [← hb12] at q12 ⊢
  generalize H11.push (.cells [(Value.string ⟨#[115]⟩), (Value.slice none 0 0), (Value.slice (some ⟨b5, 0, none⟩) 2 2), (Value.string ⟨#[101]⟩), (Value.slice (some ⟨b6, 0, none⟩) 1 1), (Value.slice (some ⟨b7, 0, none⟩) 1 1), (Value.string ⟨#[109, 111, 114, 101]⟩), (Value.slice (some ⟨b8, 0, none⟩) 2 2), (Value.slice (some ⟨b9, 0, none⟩) 1 1), (Value.string ⟨#[102]⟩), (Value.slice (some ⟨b10, 0, none⟩) 1 1), (Value.slice (some ⟨b11, 0, none⟩) 2 2)] 101 .exact) = H12 at e12 q12 ⊢
  have t13 := q3.ks (((((((((((KS.refl _ _ _ _ : KS N [] [99] _ _)).trans (k4.mono (by simp) (by simp))).trans (KS.ext e5)).trans (KS.ext e6)).trans (KS.ext e7)).trans (KS.ext e8)).trans (KS.ext e9)).trans (KS.ext e10)).trans (KS.ext e11)).trans (KS.ext e12)) (by decide) (by decide)
  rw [fa_ptr, obP_some]
  refine st_ok (c' := [(Value.slice (some ⟨b2, 0, none⟩) 8 8), (Value.slice (some ⟨b12, 0, none⟩) 4 4), (Value.slice none 0 0)]) t13 rfl rfl rfl rfl (by simp) rfl rfl ?_
  have k13 : KS N [] [28] H12 (H12.upd b3 (.cells [(Value.slice (some ⟨b2, 0, none⟩) 8 8), (Value.slice (some ⟨b12, 0, none⟩) 4 4), (Value.slice none 0 0)] 28 .exact)) := KS.upd _ t13 hb3 (by simp)
  have q13 : Has (H12.upd b3 (.cells [(Value.slice (some ⟨b2, 0, none⟩) 8 8), (Value.slice (some ⟨b12, 0, none⟩) 4 4), (Value.slice none 0 0)] 28 .exact)) b3 (.cells [(Value.slice (some ⟨b2, 0, none⟩) 8 8), (Value.slice (some ⟨b12, 0, none⟩) 4 4), (Value.slice none 0 0)] 28 .exact) := t13.upd_self _
  generalize H12.upd b3 (.cells [(Value.slice (some ⟨b2, 0, none⟩) 8 8), (Value.slice (some ⟨b12, 0, none⟩) 4 4), (Value.slice none 0 0)] 28 .exact) = H13 at k13 q13 ⊢
  refine obP_of (a := .agg ⟨[(Value.bool false), (Value.int .i64 1)]⟩) rfl ?_
  refine bldSl_ok (cs := [(Value.bool false), (Value.int .i64 1)]) rfl rfl rfl ?_
  have e14 := Ext.push H13 (.cells [(Value.bool false), (Value.int .i64 1)] 90 .exact)
  have q14 : Has (H13.push (.cells [(Value.bool false), (Value.int .i64 1)] 90 .exact)) H13.n (.cells [(Value.bool false), (Value.int .i64 1)] 90 .exact) := Has.push_self _ _
  obtain ⟨b14, hb14⟩ : ∃ x, x = H13.n := ⟨_, rfl⟩
  rw [← hb14] at q14 ⊢
  generalize H13.push (.cells [(Value.bool false), (Value.int .i64 1)] 90 .exact) = H14 at e14 q14 ⊢
  refine obP_of (a := .agg ⟨[(Value.int .i64 22), (Value.int .i64 0), (Value.int .i64 0), (Value.string ⟨#[]⟩), (Value.slice none 0 0), (Value.int .i64 0), (Value.int .i64 0), (Value.slice none 0 0)]⟩) rfl ?_
  refine obP_of (a := .agg ⟨[(Value.int .i64 3), (Value.int .i64 0), (Value.string ⟨#[120]⟩), (Value.slice none 0 0)]⟩) rfl ?_
  refine con_ok (cs := [(Value.int .i64 3), (Value.int .i64 0), (Value.string ⟨#[120]⟩), (Value.slice none 0 0)]) ⟨rfl, rfl⟩ fun r15 H15 k15 e15 => ?_
  obtain ⟨x15_0, x15_1, x15_2, x15_3, x15_4, x15_5, x15_6, x15_7, rfl⟩ := row8 k15
  refine obP_of (a := .agg ⟨[(Value.int .i64 1), (Value.int .i64 5), (Value.string ⟨#[]⟩), (Value.slice none 0 0)]⟩) rfl ?_
  refine con_ok (cs := [(Value.int .i64 1), (Value.int .i64 5), (Value.string ⟨#[]⟩), (Value.slice none 0 0)]) ⟨rfl, rfl⟩ fun r16 H16 k16 e16 => ?_
  obtain ⟨x16_0, x16_1, x16_2, x16_3, x16_4, x16_5, x16_6, x16_7, rfl⟩ := row8 k16
  refine bldSl_ok (cs := [(Value.int .i64 22), (Value.int .i64 0), (Value.int .i64 0), (Value.string ⟨#[]⟩), (Value.slice none 0 0), (Value.int .i64 0), (Value.int .i64 0), (Value.slice none 0 0), x15_0, x15_1, x15_2, x15_3, x15_4, x15_5, x15_6, x15_7, x16_0, x16_1, x16_2, x16_3, x16_4, x16_5, x16_6, x16_7]) rfl rfl rfl ?_
  have e17 := Ext.push H16 (.cells [(Value.int .i64 22), (Value.int .i64 0), (Value.int .i64 0), (Value.string ⟨#[]⟩), (Value.slice none 0 0), (Value.int .i64 0), (Value.int .i64 0), (Value.slice none 0 0), x15_0, x15_1, x15_2, x15_3, x15_4, x15_5, x15_6, x15_7, x16_0, x16_1, x16_2, x16_3, x16_4, x16_5, x16_6, x16_7] 134 .exact)
  have q17 : Has (H16.push (.cells [(Value.int .i64 22), (Value.int .i64 0), (Value.int .i64 0), (Value.string ⟨#[]⟩), (Value.slice none 0 0), (Value.int .i64 0), (Value.int .i64 0), (Value.slice none 0 0), x15_0, x15_1, x15_2, x15_3, x15_4, x15_5, x15_6, x15_7, x16_0, x16_1, x16_2, x16_3, x16_4, x16_5, x16_6, x16_7] 134 .exact)) H16.n (.cells [(Value.int .i64 22), (Value.int .i64 0), (Value.int .i64 0), (Value.string ⟨#[]⟩), (Value.slice none 0 0), (Value.int .i64 0), (Value.int .i64 0), (Value.slice none 0 0), x15_0, x15_1, x15_2, x15_3, x15_4, x15_5, x15_6, x15_7, x16_0, x16_1, x16_2, x16_3, x16_4, x16_5, x16_6, x16_7] 134 .exact) := Has.push_self _ _
  obtain ⟨b17, hb17⟩ : ∃ x, x = H16.n := ⟨_, rfl⟩
  rw [← hb17] at q17 ⊢
  generalize H16.push (.cells [(Value.int .i64 22), (Value.int .i64 0), (Value.int .i64 0), (Value.string ⟨#[]⟩), (Value.slice none 0 0), (Value.int .i64 0), (Value.int .i64 0), (Value.slice none 0 0), x15_0, x15_1, x15_2, x15_3, x15_4, x15_5, x15_6, x15_7, x16_0, x16_1, x16_2, x16_3, x16_4, x16_5, x16_6, x16_7] 134 .exact) = H17 at e17 q17 ⊢
  refine obP_of (a := .agg ⟨[(Value.int .i64 16), (Value.int .i64 0), (Value.int .i64 0), (Value.string ⟨#[]⟩), (Value.slice none 0 0), (Value.int .i64 0), (Value.int .i64 0), (Value.slice (some ⟨b17, 0, none⟩) 3 3)]⟩) rfl ?_
  refine obP_of (a := .agg ⟨[(Value.int .i64 1), (Value.int .i64 0), (Value.int .i64 16), (Value.int .i64 0), (Value.int .i64 0), (Value.string ⟨#[]⟩), (Value.slice none 0 0), (Value.int .i64 0), (Value.int .i64 0), (Value.slice (some ⟨b17, 0, none⟩) 3 3)]⟩) rfl ?_
  refine ref_ok fun r18 H18 k18 e18 => ?_
  obtain ⟨x18_0, x18_1, x18_2, x18_3, x18_4, x18_5, x18_6, x18_7, rfl⟩ := row8 k18
  refine obP_of (a := .agg ⟨[(Value.int .i64 0), (Value.int .i64 0), x18_0, x18_1, x18_2, x18_3, x18_4, x18_5, x18_6, x18_7]⟩) rfl ?_
  refine ref_ok fun r19 H19 k19 e19 => ?_
  obtain ⟨x19_0, x19_1, x19_2, x19_3, x19_4, x19_5, x19_6, x19_7, rfl⟩ := row8 k19
  refine obP_of (a := .agg ⟨[(Value.int .i64 1), (Value.int .i64 10), (Value.string ⟨#[]⟩), (Value.slice none 0 0)]⟩) rfl ?_
  refine con_ok (cs := [(Value.int .i64 1), (Value.int .i64 10), (Value.string ⟨#[]⟩), (Value.slice none 0 0)]) ⟨rfl, rfl⟩ fun r20 H20 k20 e20 => ?_
  obtain ⟨x20_0, x20_1, x20_2, x20_3, x20_4, x20_5, x20_6, x20_7, rfl⟩ := row8 k20
  refine bldSl_ok (cs := [x19_0, x19_1, x19_2, x19_3, x19_4, x19_5, x19_6, x19_7, x20_0, x20_1, x20_2, x20_3, x20_4, x20_5, x20_6, x20_7]) rfl rfl rfl ?_
  have e21 := Ext.push H20 (.cells [x19_0, x19_1, x19_2, x19_3, x19_4, x19_5, x19_6, x19_7, x20_0, x20_1, x20_2, x20_3, x20_4, x20_5, x20_6, x20_7] 134 .exact)
  have q21 : Has (H20.push (.cells [x19_0, x19_1, x19_2, x19_3, x19_4, x19_5, x19_6, x19_7, x20_0, x20_1, x20_2, x20_3, x20_4, x20_5, x20_6, x20_7] 134 .exact)) H20.n (.cells [x19_0, x19_1, x19_2, x19_3, x19_4, x19_5, x19_6, x19_7, x20_0, x20_1, x20_2, x20_3, x20_4, x20_5, x20_6, x20_7] 134 .exact) := Has.push_self _ _
  obtain ⟨b21, hb21⟩ : ∃ x, x = H20.n := ⟨_, rfl⟩
  rw [← hb21] at q21 ⊢
  generalize H20.push (.cells [x19_0, x19_1, x19_2, x19_3, x19_4, x19_5, x19_6, x19_7, x20_0, x20_1, x20_2, x20_3, x20_4, x20_5, x20_6, x20_7] 134 .exact) = H21 at e21 q21 ⊢
  refine obP_of (a := .agg ⟨[(Value.int .i64 8), (Value.int .i64 0), (Value.int .i64 0), (Value.string ⟨#[]⟩), (Value.slice none 0 0), (Value.int .i64 0), (Value.int .i64 0), (Value.slice (some ⟨b21, 0, none⟩) 2 2)]⟩) rfl ?_
  refine obP_of (a := .agg ⟨[(Value.int .i64 0), (Value.int .i64 1), (Value.int .i64 8), (Value.int .i64 0), (Value.int .i64 0), (Value.string ⟨#[]⟩), (Value.slice none 0 0), (Value.int .i64 0), (Value.int .i64 0), (Value.slice (some ⟨b21, 0, none⟩) 2 2)]⟩) rfl ?_
  refine bldSl_ok (cs := [(Value.int .i64 1), (Value.int .i64 0), (Value.int .i64 16), (Value.int .i64 0), (Value.int .i64 0), (Value.string ⟨#[]⟩), (Value.slice none 0 0), (Value.int .i64 0), (Value.int .i64 0), (Value.slice (some ⟨b17, 0, none⟩) 3 3), (Value.int .i64 0), (Value.int .i64 0), x18_0, x18_1, x18_2, x18_3, x18_4, x18_5, x18_6, x18_7, (Value.int .i64 0), (Value.int .i64 1), (Value.int .i64 8), (Value.int .i64 0), (Value.int .i64 0), (Value.string ⟨#[]⟩), (Value.slice none 0 0), (Value.int .i64 0), (Value.int .i64 0), (Value.slice (some ⟨b21, 0, none⟩) 2 2)]) rfl rfl rfl ?_
  have e22 := Ext.push H21 (.cells [(Value.int .i64 1), (Value.int .i64 0), (Value.int .i64 16), (Value.int .i64 0), (Value.int .i64 0), (Value.string ⟨#[]⟩), (Value.slice none 0 0), (Value.int .i64 0), (Value.int .i64 0), (Value.slice (some ⟨b17, 0, none⟩) 3 3), (Value.int .i64 0), (Value.int .i64 0), x18_0, x18_1, x18_2, x18_3, x18_4, x18_5, x18_6, x18_7, (Value.int .i64 0), (Value.int .i64 1), (Value.int .i64 8), (Value.int .i64 0), (Value.int .i64 0), (Value.string ⟨#[]⟩), (Value.slice none 0 0), (Value.int .i64 0), (Value.int .i64 0), (Value.slice (some ⟨b21, 0, none⟩) 2 2)] 137 .exact)
  have q22 : Has (H21.push (.cells [(Value.int .i64 1), (Value.int .i64 0), (Value.int .i64 16), (Value.int .i64 0), (Value.int .i64 0), (Value.string ⟨#[]⟩), (Value.slice none 0 0), (Value.int .i64 0), (Value.int .i64 0), (Value.slice (some ⟨b17, 0, none⟩) 3 3), (Value.int .i64 0), (Value.int .i64 0), x18_0, x18_1, x18_2, x18_3, x18_4, x18_5, x18_6, x18_7, (Value.int .i64 0), (Value.int .i64 1), (Value.int .i64 8), (Value.int .i64 0), (Value.int .i64 0), (Value.string ⟨#[]⟩), (Value.slice none 0 0), (Value.int .i64 0), (Value.int .i64 0), (Value.slice (some ⟨b21, 0, none⟩) 2 2)] 137 .exact)) H21.n (.cells [(Value.int .i64 1), (Value.int .i64 0), (Value.int .i64 16), (Value.int .i64 0), (Value.int .i64 0), (Value.string ⟨#[]⟩), (Value.slice none 0 0), (Value.int .i64 0), (Value.int .i64 0), (Value.slice (some ⟨b17, 0, none⟩) 3 3), (Value.int .i64 0), (Value.int .i64 0), x18_0, x18_1, x18_2, x18_3, x18_4, x18_5, x18_6, x18_7, (Value.int .i64 0), (Value.int .i64 1), (Value.int .i64 8), (Value.int .i64 0), (Value.int .i64 0), (Value.string ⟨#[]⟩), (Value.slice none 0 0), (Value.int .i64 0), (Value.int .i64 0), (Value.slice (some ⟨b21, 0, none⟩) 2 2)] 137 .exact) := Has.push_self _ _
  obtain ⟨b22, hb22⟩ : ∃ x, x = H21.n := ⟨_, rfl⟩
  rw [← hb22] at q22 ⊢
  generalize H21.push (.cells [(Value.int .i64 1), (Value.int .i64 0), (Value.int .i64 16), (Value.int .i64 0), (Value.int .i64 0), (Value.string ⟨#[]⟩), (Value.slice none 0 0), (Value.int .i64 0), (Value.int .i64 0), (Value.slice (some ⟨b17, 0, none⟩) 3 3), (Value.int .i64 0), (Value.int .i64 0), x18_0, x18_1, x18_2, x18_3, x18_4, x18_5, x18_6, x18_7, (Value.int .i64 0), (Value.int .i64 1), (Value.int .i64 8), (Value.int .i64 0), (Value.int .i64 0), (Value.string ⟨#[]⟩), (Value.slice none 0 0), (Value.int .i64 0), (Value.int .i64 0), (Value.slice (some ⟨b21, 0, none⟩) 2 2)] 137 .exact) = H22 at e22 q22 ⊢
  refine obP_of (a := .agg ⟨[(Value.int .i64 0), (Value.slice (some ⟨b14, 0, none⟩) 1 1), (Value.slice (some ⟨b22, 0, none⟩) 3 3)]⟩) rfl ?_
  refine obP_of (a := .agg ⟨[(Value.bool false), (Value.int .i64 3)]⟩) rfl ?_
  refine obP_of (a := .agg ⟨[(Value.bool false), (Value.int .i64 2)]⟩) rfl ?_
  refine bldSl_ok (cs := [(Value.bool false), (Value.int .i64 3), (Value.bool false), (Value.int .i64 2)]) rfl rfl rfl ?_
  have e23 := Ext.push H22 (.cells [(Value.bool false), (Value.int .i64 3), (Value.bool false), (Value.int .i64 2)] 90 .exact)
  have q23 : Has (H22.push (.cells [(Value.bool false), (Value.int .i64 3), (Value.bool false), (Value.int .i64 2)] 90 .exact)) H22.n (.cells [(Value.bool false), (Value.int .i64 3), (Value.bool false), (Value.int .i64 2)] 90 .exact) := Has.push_self _ _
  obtain ⟨b23, hb23⟩ : ∃ x, x = H22.n := ⟨_, rfl⟩
  rw [← hb23] at q23 ⊢
  generalize H22.push (.cells [(Value.bool false), (Value.int .i64 3), (Value.bool false), (Value.int .i64 2)] 90 .exact) = H23 at e23 q23 ⊢
  refine ref_ok fun r24 H24 k24 e24 => ?_
  obtain ⟨x24_0, x24_1, x24_2, x24_3, x24_4, x24_5, x24_6, x24_7, rfl⟩ := row8 k24
  refine obP_of (a := .agg ⟨[(Value.int .i64 1), (Value.int .i64 0), x24_0, x24_1, x24_2, x24_3, x24_4, x24_5, x24_6, x24_7]⟩) rfl ?_
  refine ref_ok fun r25 H25 k25 e25 => ?_
  obtain ⟨x25_0, x25_1, x25_2, x25_3, x25_4, x25_5, x25_6, x25_7, rfl⟩ := row8 k25
  refine obP_of (a := .agg ⟨[(Value.int .i64 2), (Value.int .i64 0), x25_0, x25_1, x25_2, x25_3, x25_4, x25_5, x25_6, x25_7]⟩) rfl ?_
  refine ref_ok fun r26 H26 k26 e26 => ?_
  obtain ⟨x26_0, x26_1, x26_2, x26_3, x26_4, x26_5, x26_6, x26_7, rfl⟩ := row8 k26
  refine obP_of (a := .agg ⟨[(Value.int .i64 2), (Value.int .i64 1), x26_0, x26_1, x26_2, x26_3, x26_4, x26_5, x26_6, x26_7]⟩) rfl ?_
  refine ref_ok fun r27 H27 k27 e27 => ?_
  obtain ⟨x27_0, x27_1, x27_2, x27_3, x27_4, x27_5, x27_6, x27_7, rfl⟩ := row8 k27
  refine obP_of (a := .agg ⟨[(Value.int .i64 0), (Value.int .i64 1), x27_0, x27_1, x27_2, x27_3, x27_4, x27_5, x27_6, x27_7]⟩) rfl ?_
  refine bldSl_ok (cs := [(Value.int .i64 1), (Value.int .i64 0), x24_0, x24_1, x24_2, x24_3, x24_4, x24_5, x24_6, x24_7, (Value.int .i64 2), (Value.int .i64 0), x25_0, x25_1, x25_2, x25_3, x25_4, x25_5, x25_6, x25_7, (Value.int .i64 2), (Value.int .i64 1), x26_0, x26_1, x26_2, x26_3, x26_4, x26_5, x26_6, x26_7, (Value.int .i64 0), (Value.int .i64 1), x27_0, x27_1, x27_2, x27_3, x27_4, x27_5, x27_6, x27_7]) rfl rfl rfl ?_
  have e28 := Ext.push H27 (.cells [(Value.int .i64 1), (Value.int .i64 0), x24_0, x24_1, x24_2, x24_3, x24_4, x24_5, x24_6, x24_7, (Value.int .i64 2), (Value.int .i64 0), x25_0, x25_1, x25_2, x25_3, x25_4, x25_5, x25_6, x25_7, (Value.int .i64 2), (Value.int .i64 1), x26_0, x26_1, x26_2, x26_3, x26_4, x26_5, x26_6, x26_7, (Value.int .i64 0), (Value.int .i64 1), x27_0, x27_1, x27_2, x27_3, x27_4, x27_5, x27_6, x27_7] 137 .exact)
  have q28 : Has (H27.push (.cells [(Value.int .i64 1), (Value.int .i64 0), x24_0, x24_1, x24_2, x24_3, x24_4, x24_5, x24_6, x24_7, (Value.int .i64 2), (Value.int .i64 0), x25_0, x25_1, x25_2, x25_3, x25_4, x25_5, x25_6, x25_7, (Value.int .i64 2), (Value.int .i64 1), x26_0, x26_1, x26_2, x26_3, x26_4, x26_5, x26_6, x26_7, (Value.int .i64 0), (Value.int .i64 1), x27_0, x27_1, x27_2, x27_3, x27_4, x27_5, x27_6, x27_7] 137 .exact)) H27.n (.cells [(Value.int .i64 1), (Value.int .i64 0), x24_0, x24_1, x24_2, x24_3, x24_4, x24_5, x24_6, x24_7, (Value.int .i64 2), (Value.int .i64 0), x25_0, x25_1, x25_2, x25_3, x25_4, x25_5, x25_6, x25_7, (Value.int .i64 2), (Value.int .i64 1), x26_0, x26_1, x26_2, x26_3, x26_4, x26_5, x26_6, x26_7, (Value.int .i64 0), (Value.int .i64 1), x27_0, x27_1, x27_2, x27_3, x27_4, x27_5, x27_6, x27_7] 137 .exact) := Has.push_self _ _
  obtain ⟨b28, hb28⟩ : ∃ x, x = H27.n := ⟨_, rfl⟩
  rw [← hb28] at q28 ⊢
  generalize H27.push (.cells [(Value.int .i64 1), (Value.int .i64 0), x24_0, x24_1, x24_2, x24_3, x24_4, x24_5, x24_6, x24_7, (Value.int .i64 2), (Value.int .i64 0), x25_0, x25_1, x25_2, x25_3, x25_4, x25_5, x25_6, x25_7, (Value.int .i64 2), (Value.int .i64 1), x26_0, x26_1, x26_2, x26_3, x26_4, x26_5, x26_6, x26_7, (Value.int .i64 0), (Value.int .i64 1), x27_0, x27_1, x27_2, x27_3, x27_4, x27_5, x27_6, x27_7] 137 .exact) = H28 at e28 q28 ⊢
  refine obP_of (a := .agg ⟨[(Value.int .i64 1), (Value.slice (some ⟨b23, 0, none⟩) 2 2), (Value.slice (some ⟨b28, 0, none⟩) 4 4)]⟩) rfl ?_
  refine tok_ok fun H29 e29 => ?_
  refine obP_of (a := .agg ⟨[(Value.bool false), (Value.int .i64 3)]⟩) rfl ?_
  refine obP_of (a := .agg ⟨[(Value.bool false), (Value.int .i64 2)]⟩) rfl ?_
  refine bldSl_ok (cs := [(Value.bool true), (Value.int .i64 2), (Value.bool false), (Value.int .i64 3), (Value.bool false), (Value.int .i64 2)]) rfl rfl rfl ?_
  have e30 := Ext.push H29 (.cells [(Value.bool true), (Value.int .i64 2), (Value.bool false), (Value.int .i64 3), (Value.bool false), (Value.int .i64 2)] 90 .exact)
  have q30 : Has (H29.push (.cells [(Value.bool true), (Value.int .i64 2), (Value.bool false), (Value.int .i64 3), (Value.bool false), (Value.int .i64 2)] 90 .exact)) H29.n (.cells [(Value.bool true), (Value.int .i64 2), (Value.bool false), (Value.int .i64 3), (Value.bool false), (Value.int .i64 2)] 90 .exact) := Has.push_self _ _
  obtain ⟨b30, hb30⟩ : ∃ x, x = H29.n := ⟨_, rfl⟩
  rw [← hb30] at q30 ⊢
  generalize H29.push (.cells [(Value.bool true), (Value.int .i64 2), (Value.bool false), (Value.int .i64 3), (Value.bool false), (Value.int .i64 2)] 90 .exact) = H30 at e30 q30 ⊢
  refine ref_ok fun r31 H31 k31 e31 => ?_
  obtain ⟨x31_0, x31_1, x31_2, x31_3, x31_4, x31_5, x31_6, x31_7, rfl⟩ := row8 k31
  refine obP_of (a := .agg ⟨[(Value.int .i64 2), (Value.int .i64 0), x31_0, x31_1, x31_2, x31_3, x31_4, x31_5, x31_6, x31_7]⟩) rfl ?_
  refine ref_ok fun r32 H32 k32 e32 => ?_
  obtain ⟨x32_0, x32_1, x32_2, x32_3, x32_4, x32_5, x32_6, x32_7, rfl⟩ := row8 k32
  refine obP_of (a := .agg ⟨[(Value.int .i64 3), (Value.int .i64 0), x32_0, x32_1, x32_2, x32_3, x32_4, x32_5, x32_6, x32_7]⟩) rfl ?_
  refine ref_ok fun r33 H33 k33 e33 => ?_
  obtain ⟨x33_0, x33_1, x33_2, x33_3, x33_4, x33_5, x33_6, x33_7, rfl⟩ := row8 k33
  refine ref_ok fun r34 H34 k34 e34 => ?_
  obtain ⟨x34_0, x34_1, x34_2, x34_3, x34_4, x34_5, x34_6, x34_7, rfl⟩ := row8 k34
  refine bldSl_ok (cs := [x33_0, x33_1, x33_2, x33_3, x33_4, x33_5, x33_6, x33_7, x34_0, x34_1, x34_2, x34_3, x34_4, x34_5, x34_6, x34_7]) rfl rfl rfl ?_
  have e35 := Ext.push H34 (.cells [x33_0, x33_1, x33_2, x33_3, x33_4, x33_5, x33_6, x33_7, x34_0, x34_1, x34_2, x34_3, x34_4, x34_5, x34_6, x34_7] 134 .exact)
  have q35 : Has (H34.push (.cells [x33_0, x33_1, x33_2, x33_3, x33_4, x33_5, x33_6, x33_7, x34_0, x34_1, x34_2, x34_3, x34_4, x34_5, x34_6, x34_7] 134 .exact)) H34.n (.cells [x33_0, x33_1, x33_2, x33_3, x33_4, x33_5, x33_6, x33_7, x34_0, x34_1, x34_2, x34_3, x34_4, x34_5, x34_6, x34_7] 134 .exact) := Has.push_self _ _
  obtain ⟨b35, hb35⟩ : ∃ x, x = H34.n := ⟨_, rfl⟩
  rw [← hb35] at q35 ⊢
  generalize H34.push (.cells [x33_0, x33_1, x33_2, x33_3, x33_4, x33_5, x33_6, x33_7, x34_0, x34_1, x34_2, x34_3, x34_4, x34_5, x34_6, x34_7] 134 .exact) = H35 at e35 q35 ⊢
  refine obP_of (a := .agg ⟨[(Value.int .i64 4), (Value.int .i64 0), (Value.int .i64 0), (Value.string ⟨#[]⟩), (Value.slice none 0 0), (Value.int .i64 0), (Value.int .i64 0), (Value.slice (some ⟨b35, 0, none⟩) 2 2)]⟩) rfl ?_
  refine obP_of (a := .agg ⟨[(Value.int .i64 3), (Value.int .i64 1), (Value.int .i64 4), (Value.int .i64 0), (Value.int .i64 0), (Value.string ⟨#[]⟩), (Value.slice none 0 0), (Value.int .i64 0), (Value.int .i64 0), (Value.slice (some ⟨b35, 0, none⟩) 2 2)]⟩) rfl ?_
  refine ref_ok fun r36 H36 k36 e36 => ?_
  obtain ⟨x36_0, x36_1, x36_2, x36_3, x36_4, x36_5, x36_6, x36_7, rfl⟩ := row8 k36
  refine obP_of (a := .agg ⟨[(Value.int .i64 0), (Value.int .i64 2), x36_0, x36_1, x36_2, x36_3, x36_4, x36_5, x36_6, x36_7]⟩) rfl ?_
  refine bldSl_ok (cs := [(Value.int .i64 2), (Value.int .i64 0), x31_0, x31_1, x31_2, x31_3, x31_4, x31_5, x31_6, x31_7, (Value.int .i64 3), (Value.int .i64 0), x32_0, x32_1, x32_2, x32_3, x32_4, x32_5, x32_6, x32_7, (Value.int .i64 3), (Value.int .i64 1), (Value.int .i64 4), (Value.int .i64 0), (Value.int .i64 0), (Value.string ⟨#[]⟩), (Value.slice none 0 0), (Value.int .i64 0), (Value.int .i64 0), (Value.slice (some ⟨b35, 0, none⟩) 2 2), (Value.int .i64 0), (Value.int .i64 2), x36_0, x36_1, x36_2, x36_3, x36_4, x36_5, x36_6, x36_7]) rfl rfl rfl ?_
  have e37 := Ext.push H36 (.cells [(Value.int .i64 2), (Value.int .i64 0), x31_0, x31_1, x31_2, x31_3, x31_4, x31_5, x31_6, x31_7, (Value.int .i64 3), (Value.int .i64 0), x32_0, x32_1, x32_2, x32_3, x32_4, x32_5, x32_6, x32_7, (Value.int .i64 3), (Value.int .i64 1), (Value.int .i64 4), (Value.int .i64 0), (Value.int .i64 0), (Value.string ⟨#[]⟩), (Value.slice none 0 0), (Value.int .i64 0), (Value.int .i64 0), (Value.slice (some ⟨b35, 0, none⟩) 2 2), (Value.int .i64 0), (Value.int .i64 2), x36_0, x36_1, x36_2, x36_3, x36_4, x36_5, x36_6, x36_7] 137 .exact)
  have q37 : Has (H36.push (.cells [(Value.int .i64 2), (Value.int .i64 0), x31_0, x31_1, x31_2, x31_3, x31_4, x31_5, x31_6, x31_7, (Value.int .i64 3), (Value.int .i64 0), x32_0, x32_1, x32_2, x32_3, x32_4, x32_5, x32_6, x32_7, (Value.int .i64 3), (Value.int .i64 1), (Value.int .i64 4), (Value.int .i64 0), (Value.int .i64 0), (Value.string ⟨#[]⟩), (Value.slice none 0 0), (Value.int .i64 0), (Value.int .i64 0), (Value.slice (some ⟨b35, 0, none⟩) 2 2), (Value.int .i64 0), (Value.int .i64 2), x36_0, x36_1, x36_2, x36_3, x36_4, x36_5, x36_6, x36_7] 137 .exact)) H36.n (.cells [(Value.int .i64 2), (Value.int .i64 0), x31_0, x31_1, x31_2, x31_3, x31_4, x31_5, x31_6, x31_7, (Value.int .i64 3), (Value.int .i64 0), x32_0, x32_1, x32_2, x32_3, x32_4, x32_5, x32_6, x32_7, (Value.int .i64 3), (Value.int .i64 1), (Value.int .i64 4), (Value.int .i64 0), (Value.int .i64 0), (Value.string ⟨#[]⟩), (Value.slice none 0 0), (Value.int .i64 0), (Value.int .i64 0), (Value.slice (some ⟨b35, 0, none⟩) 2 2), (Value.int .i64 0), (Value.int .i64 2), x36_0, x36_1, x36_2, x36_3, x36_4, x36_5, x36_6, x36_7] 137 .exact) := Has.push_self _ _
  obtain ⟨b37, hb37⟩ : ∃ x, x = H36.n := ⟨_, rfl⟩
  rw [← hb37] at q37 ⊢
  generalize H36.push (.cells [(Value.int .i64 2), (Value.int .i64 0), x31_0, x31_1, x31_2, x31_3, x31_4, x31_5, x31_6, x31_7, (Value.int .i64 3), (Value.int .i64 0), x32_0, x32_1, x32_2, x32_3, x32_4, x32_5, x32_6, x32_7, (Value.int .i64 3), (Value.int .i64 1), (Value.int .i64 4), (Value.int .i64 0), (Value.int .i64 0), (Value.string ⟨#[]⟩), (Value.slice none 0 0), (Value.int .i64 0), (Value.int .i64 0), (Value.slice (some ⟨b35, 0, none⟩) 2 2), (Value.int .i64 0), (Value.int .i64 2), x36_0, x36_1, x36_2, x36_3, x36_4, x36_5, x36_6, x36_7] 137 .exact) = H37 at e37 q37 ⊢
  refine obP_of (a := .agg ⟨[(Value.int .i64 2), (Value.slice (some ⟨b30, 0, none⟩) 3 3), (Value.slice (some ⟨b37, 0, none⟩) 4 4)]⟩) rfl ?_
  refine ref_ok fun r38 H38 k38 e38 => ?_
  obtain ⟨x38_0, x38_1, x38_2, x38_3, x38_4, x38_5, x38_6, x38_7, rfl⟩ := row8 k38
  refine obP_of (a := .agg ⟨[(Value.int .i64 0), (Value.int .i64 2), x38_0, x38_1, x38_2, x38_3, x38_4, x38_5, x38_6, x38_7]⟩) rfl ?_
  refine bldSl_ok (cs := [(Value.int .i64 0), (Value.int .i64 2), x38_0, x38_1, x38_2, x38_3, x38_4, x38_5, x38_6, x38_7]) rfl rfl rfl ?_
  have e39 := Ext.push H38 (.cells [(Value.int .i64 0), (Value.int .i64 2), x38_0, x38_1, x38_2, x38_3, x38_4, x38_5, x38_6, x38_7] 137 .exact)
  have q39 : Has (H38.push (.cells [(Value.int .i64 0), (Value.int .i64 2), x38_0, x38_1, x38_2, x38_3, x38_4, x38_5, x38_6, x38_7] 137 .exact)) H38.n (.cells [(Value.int .i64 0), (Value.int .i64 2), x38_0, x38_1, x38_2, x38_3, x38_4, x38_5, x38_6, x38_7] 137 .exact) := Has.push_self _ _
  obtain ⟨b39, hb39⟩ : ∃ x, x = H38.n := ⟨_, rfl⟩
  rw [← hb39] at q39 ⊢
  generalize H38.push (.cells [(Value.int .i64 0), (Value.int .i64 2), x38_0, x38_1, x38_2, x38_3, x38_4, x38_5, x38_6, x38_7] 137 .exact) = H39 at e39 q39 ⊢
  refine obP_of (a := .agg ⟨[(Value.int .i64 2), (Value.slice none 0 0), (Value.slice (some ⟨b39, 0, none⟩) 1 1)]⟩) rfl ?_
  refine tok_ok fun H40 e40 => ?_
  refine bldSl_ok (cs := [(Value.bool true), (Value.int .i64 0)]) rfl rfl rfl ?_
  have e41 := Ext.push H40 (.cells [(Value.bool true), (Value.int .i64 0)] 90 .exact)
  have q41 : Has (H40.push (.cells [(Value.bool true), (Value.int .i64 0)] 90 .exact)) H40.n (.cells [(Value.bool true), (Value.int .i64 0)] 90 .exact) := Has.push_self _ _
  obtain ⟨b41, hb41⟩ : ∃ x, x = H40.n := ⟨_, rfl⟩
  rw [← hb41] at q41 ⊢
  generalize H40.push (.cells [(Value.bool true), (Value.int .i64 0)] 90 .exact) = H41 at e41 q41 ⊢
  refine obP_of (a := .agg ⟨[(Value.int .i64 3), (Value.int .i64 0), (Value.int .i64 0), (Value.string ⟨#[]⟩), (Value.slice none 0 0), (Value.int .i64 1), (Value.int .i64 0), (Value.slice none 0 0)]⟩) rfl ?_
  refine obP_of (a := .agg ⟨[(Value.int .i64 0), (Value.int .i64 1), (Value.int .i64 3), (Value.int .i64 0), (Value.int .i64 0), (Value.string ⟨#[]⟩), (Value.slice none 0 0), (Value.int .i64 1), (Value.int .i64 0), (Value.slice none 0 0)]⟩) rfl ?_
  refine obP_of (a := .agg ⟨[(Value.int .i64 1), (Value.int .i64 1), (Value.string ⟨#[]⟩), (Value.slice none 0 0)]⟩) rfl ?_
  refine con_ok (cs := [(Value.int .i64 1), (Value.int .i64 1), (Value.string ⟨#[]⟩), (Value.slice none 0 0)]) ⟨rfl, rfl⟩ fun r42 H42 k42 e42 => ?_
  obtain ⟨x42_0, x42_1, x42_2, x42_3, x42_4, x42_5, x42_6, x42_7, rfl⟩ := row8 k42
  refine obP_of (a := .agg ⟨[(Value.int .i64 0), (Value.int .i64 2), x42_0, x42_1, x42_2, x42_3, x42_4, x42_5, x42_6, x42_7]⟩) rfl ?_
  refine bldSl_ok (cs := [(Value.int .i64 0), (Value.int .i64 1), (Value.int .i64 3), (Value.int .i64 0), (Value.int .i64 0), (Value.string ⟨#[]⟩), (Value.slice none 0 0), (Value.int .i64 1), (Value.int .i64 0), (Value.slice none 0 0), (Value.int .i64 0), (Value.int .i64 2), x42_0, x42_1, x42_2, x42_3, x42_4, x42_5, x42_6, x42_7]) rfl rfl rfl ?_
  have e43 := Ext.push H42 (.cells [(Value.int .i64 0), (Value.int .i64 1), (Value.int .i64 3), (Value.int .i64 0), (Value.int .i64 0), (Value.string ⟨#[]⟩), (Value.slice none 0 0), (Value.int .i64 1), (Value.int .i64 0), (Value.slice none 0 0), (Value.int .i64 0), (Value.int .i64 2), x42_0, x42_1, x42_2, x42_3, x42_4, x42_5, x42_6, x42_7] 137 .exact)
  have q43 : Has (H42.push (.cells [(Value.int .i64 0), (Value.int .i64 1), (Value.int .i64 3), (Value.int .i64 0), (Value.int .i64 0), (Value.string ⟨#[]⟩), (Value.slice none 0 0), (Value.int .i64 1), (Value.int .i64 0), (Value.slice none 0 0), (Value.int .i64 0), (Value.int .i64 2), x42_0, x42_1, x42_2, x42_3, x42_4, x42_5, x42_6, x42_7] 137 .exact)) H42.n (.cells [(Value.int .i64 0), (Value.int .i64 1), (Value.int .i64 3), (Value.int .i64 0), (Value.int .i64 0), (Value.string ⟨#[]⟩), (Value.slice none 0 0), (Value.int .i64 1), (Value.int .i64 0), (Value.slice none 0 0), (Value.int .i64 0), (Value.int .i64 2), x42_0, x42_1, x42_2, x42_3, x42_4, x42_5, x42_6, x42_7] 137 .exact) := Has.push_self _ _
  obtain ⟨b43, hb43⟩ : ∃ x, x = H42.n := ⟨_, rfl⟩
  rw [← hb43] at q43 ⊢
  generalize H42.push (.cells [(Value.int .i64 0), (Value.int .i64 1), (Value.int .i64 3), (Value.int .i64 0), (Value.int .i64 0), (Value.string ⟨#[]⟩), (Value.slice none 0 0), (Value.int .i64 1), (Value.int .i64 0), (Value.slice none 0 0), (Value.int .i64 0), (Value.int .i64 2), x42_0, x42_1, x42_2, x42_3, x42_4, x42_5, x42_6, x42_7] 137 .exact) = H43 at e43 q43 ⊢
  refine obP_of (a := .agg ⟨[(Value.int .i64 3), (Value.slice (some ⟨b41, 0, none⟩) 1 1), (Value.slice (some ⟨b43, 0, none⟩) 2 2)]⟩) rfl ?_
  refine tok_ok fun H44 e44 => ?_
  refine bldSl_ok (cs := [(Value.bool true), (Value.int .i64 1)]) rfl rfl rfl ?_
  have e45 := Ext.push H44 (.cells [(Value.bool true), (Value.int .i64 1)] 90 .exact)
  have q45 : Has (H44.push (.cells [(Value.bool true), (Value.int .i64 1)] 90 .exact)) H44.n (.cells [(Value.bool true), (Value.int .i64 1)] 90 .exact) := Has.push_self _ _
  obtain ⟨b45, hb45⟩ : ∃ x, x = H44.n := ⟨_, rfl⟩
  rw [← hb45] at q45 ⊢
  generalize H44.push (.cells [(Value.bool true), (Value.int .i64 1)] 90 .exact) = H45 at e45 q45 ⊢
  refine ref_ok fun r46 H46 k46 e46 => ?_
  obtain ⟨x46_0, x46_1, x46_2, x46_3, x46_4, x46_5, x46_6, x46_7, rfl⟩ := row8 k46
  refine obP_of (a := .agg ⟨[(Value.int .i64 2), (Value.int .i64 0), (Value.int .i64 0), (Value.string ⟨#[]⟩), (Value.slice none 0 0), (Value.int .i64 1), (Value.int .i64 0), (Value.slice none 0 0)]⟩) rfl ?_
  refine bldSl_ok (cs := [x46_0, x46_1, x46_2, x46_3, x46_4, x46_5, x46_6, x46_7, (Value.int .i64 2), (Value.int .i64 0), (Value.int .i64 0), (Value.string ⟨#[]⟩), (Value.slice none 0 0), (Value.int .i64 1), (Value.int .i64 0), (Value.slice none 0 0)]) rfl rfl rfl ?_
  have e47 := Ext.push H46 (.cells [x46_0, x46_1, x46_2, x46_3, x46_4, x46_5, x46_6, x46_7, (Value.int .i64 2), (Value.int .i64 0), (Value.int .i64 0), (Value.string ⟨#[]⟩), (Value.slice none 0 0), (Value.int .i64 1), (Value.int .i64 0), (Value.slice none 0 0)] 134 .exact)
  have q47 : Has (H46.push (.cells [x46_0, x46_1, x46_2, x46_3, x46_4, x46_5, x46_6, x46_7, (Value.int .i64 2), (Value.int .i64 0), (Value.int .i64 0), (Value.string ⟨#[]⟩), (Value.slice none 0 0), (Value.int .i64 1), (Value.int .i64 0), (Value.slice none 0 0)] 134 .exact)) H46.n (.cells [x46_0, x46_1, x46_2, x46_3, x46_4, x46_5, x46_6, x46_7, (Value.int .i64 2), (Value.int .i64 0), (Value.int .i64 0), (Value.string ⟨#[]⟩), (Value.slice none 0 0), (Value.int .i64 1), (Value.int .i64 0), (Value.slice none 0 0)] 134 .exact) := Has.push_self _ _
  obtain ⟨b47, hb47⟩ : ∃ x, x = H46.n := ⟨_, rfl⟩
  rw [← hb47] at q47 ⊢
  generalize H46.push (.cells [x46_0, x46_1, x46_2, x46_3, x46_4, x46_5, x46_6, x46_7, (Value.int .i64 2), (Value.int .i64 0), (Value.int .i64 0), (Value.string ⟨#[]⟩), (Value.slice none 0 0), (Value.int .i64 1), (Value.int .i64 0), (Value.slice none 0 0)] 134 .exact) = H47 at e47 q47 ⊢
  refine obP_of (a := .agg ⟨[(Value.int .i64 17), (Value.int .i64 0), (Value.int .i64 0), (Value.string ⟨#[]⟩), (Value.slice none 0 0), (Value.int .i64 0), (Value.int .i64 0), (Value.slice (some ⟨b47, 0, none⟩) 2 2)]⟩) rfl ?_
  refine obP_of (a := .agg ⟨[(Value.int .i64 0), (Value.int .i64 1), (Value.int .i64 17), (Value.int .i64 0), (Value.int .i64 0), (Value.string ⟨#[]⟩), (Value.slice none 0 0), (Value.int .i64 0), (Value.int .i64 0), (Value.slice (some ⟨b47, 0, none⟩) 2 2)]⟩) rfl ?_
  refine obP_of (a := .agg ⟨[(Value.int .i64 2), (Value.int .i64 0), (Value.int .i64 0), (Value.string ⟨#[]⟩), (Value.slice none 0 0), (Value.int .i64 1), (Value.int .i64 0), (Value.slice none 0 0)]⟩) rfl ?_
  refine bldSl_ok (cs := [(Value.int .i64 2), (Value.int .i64 0), (Value.int .i64 0), (Value.string ⟨#[]⟩), (Value.slice none 0 0), (Value.int .i64 1), (Value.int .i64 0), (Value.slice none 0 0)]) rfl rfl rfl ?_
  have e48 := Ext.push H47 (.cells [(Value.int .i64 2), (Value.int .i64 0), (Value.int .i64 0), (Value.string ⟨#[]⟩), (Value.slice none 0 0), (Value.int .i64 1), (Value.int .i64 0), (Value.slice none 0 0)] 134 .exact)
  have q48 : Has (H47.push (.cells [(Value.int .i64 2), (Value.int .i64 0), (Value.int .i64 0), (Value.string ⟨#[]⟩), (Value.slice none 0 0), (Value.int .i64 1), (Value.int .i64 0), (Value.slice none 0 0)] 134 .exact)) H47.n (.cells [(Value.int .i64 2), (Value.int .i64 0), (Value.int .i64 0), (Value.string ⟨#[]⟩), (Value.slice none 0 0), (Value.int .i64 1), (Value.int .i64 0), (Value.slice none 0 0)] 134 .exact) := Has.push_self _ _
  obtain ⟨b48, hb48⟩ : ∃ x, x = H47.n := ⟨_, rfl⟩
  rw [← hb48] at q48 ⊢
  generalize H47.push (.cells [(Value.int .i64 2), (Value.int .i64 0), (Value.int .i64 0), (Value.string ⟨#[]⟩), (Value.slice none 0 0), (Value.int .i64 1), (Value.int .i64 0), (Value.slice none 0 0)] 134 .exact) = H48 at e48 q48 ⊢
  refine obP_of (a := .agg ⟨[(Value.int .i64 15), (Value.int .i64 0), (Value.int .i64 0), (Value.string ⟨#[]⟩), (Value.slice none 0 0), (Value.int .i64 0), (Value.int .i64 0), (Value.slice (some ⟨b48, 0, none⟩) 1 1)]⟩) rfl ?_
  refine obP_of (a := .agg ⟨[(Value.int .i64 0), (Value.int .i64 2), (Value.int .i64 15), (Value.int .i64 0), (Value.int .i64 0), (Value.string ⟨#[]⟩), (Value.slice none 0 0), (Value.int .i64 0), (Value.int .i64 0), (Value.slice (some ⟨b48, 0, none⟩) 1 1)]⟩) rfl ?_
  refine bldSl_ok (cs := [(Value.int .i64 0), (Value.int .i64 1), (Value.int .i64 17), (Value.int .i64 0), (Value.int .i64 0), (Value.string ⟨#[]⟩), (Value.slice none 0 0), (Value.int .i64 0), (Value.int .i64 0), (Value.slice (some ⟨b47, 0, none⟩) 2 2), (Value.int .i64 0), (Value.int .i64 2), (Value.int .i64 15), (Value.int .i64 0), (Value.int .i64 0), (Value.string ⟨#[]⟩), (Value.slice none 0 0), (Value.int .i64 0), (Value.int .i64 0), (Value.slice (some ⟨b48, 0, none⟩) 1 1)]) rfl rfl rfl ?_
  have e49 := Ext.push H48 (.cells [(Value.int .i64 0), (Value.int .i64 1), (Value.int .i64 17), (Value.int .i64 0), (Value.int .i64 0), (Value.string ⟨#[]⟩), (Value.slice none 0 0), (Value.int .i64 0), (Value.int .i64 0), (Value.slice (some ⟨b47, 0, none⟩) 2 2), (Value.int .i64 0), (Value.int .i64 2), (Value.int .i64 15), (Value.int .i64 0), (Value.int .i64 0), (Value.string ⟨#[]⟩), (Value.slice none 0 0), (Value.int .i64 0), (Value.int .i64 0), (Value.slice (some ⟨b48, 0, none⟩) 1 1)] 137 .exact)
  have q49 : Has (H48.push (.cells [(Value.int .i64 0), (Value.int .i64 1), (Value.int .i64 17), (Value.int .i64 0), (Value.int .i64 0), (Value.string ⟨#[]⟩), (Value.slice none 0 0), (Value.int .i64 0), (Value.int .i64 0), (Value.slice (some ⟨b47, 0, none⟩) 2 2), (Value.int .i64 0), (Value.int .i64 2), (Value.int .i64 15), (Value.int .i64 0), (Value.int .i64 0), (Value.string ⟨#[]⟩), (Value.slice none 0 0), (Value.int .i64 0), (Value.int .i64 0), (Value.slice (some ⟨b48, 0, none⟩) 1 1)] 137 .exact)) H48.n (.cells [(Value.int .i64 0), (Value.int .i64 1), (Value.int .i64 17), (Value.int .i64 0), (Value.int .i64 0), (Value.string ⟨#[]⟩), (Value.slice none 0 0), (Value.int .i64 0), (Value.int .i64 0), (Value.slice (some ⟨b47, 0, none⟩) 2 2), (Value.int .i64 0), (Value.int .i64 2), (Value.int .i64 15), (Value.int .i64 0), (Value.int .i64 0), (Value.string ⟨#[]⟩), (Value.slice none 0 0), (Value.int .i64 0), (Value.int .i64 0), (Value.slice (some ⟨b48, 0, none⟩) 1 1)] 137 .exact) := Has.push_self _ _
  obtain ⟨b49, hb49⟩ : ∃ x, x = H48.n := ⟨_, rfl⟩
  rw [← hb49] at q49 ⊢
  generalize H48.push (.cells [(Value.int .i64 0), (Value.int .i64 1), (Value.int .i64 17), (Value.int .i64 0), (Value.int .i64 0), (Value.string ⟨#[]⟩), (Value.slice none 0 0), (Value.int .i64 0), (Value.int .i64 0), (Value.slice (some ⟨b47, 0, none⟩) 2 2), (Value.int .i64 0), (Value.int .i64 2), (Value.int .i64 15), (Value.int .i64 0), (Value.int .i64 0), (Value.string ⟨#[]⟩), (Value.slice none 0 0), (Value.int .i64 0), (Value.int .i64 0), (Value.slice (some ⟨b48, 0, none⟩) 1 1)] 137 .exact) = H49 at e49 q49 ⊢
  refine obP_of (a := .agg ⟨[(Value.int .i64 3), (Value.slice (some ⟨b45, 0, none⟩) 1 1), (Value.slice (some ⟨b49, 0, none⟩) 2 2)]⟩) rfl ?_
  refine tok_ok fun H50 e50 => ?_
  refine obP_of (a := .agg ⟨[(Value.bool false), (Value.int .i64 1)]⟩) rfl ?_
  refine tok_ok fun H51 e51 => ?_
  refine bldSl_ok (cs := [(Value.bool true), (Value.int .i64 4), (Value.bool false), (Value.int .i64 1), (Value.bool true), (Value.int .i64 5)]) rfl rfl rfl ?_
  have e52 := Ext.push H51 (.cells [(Value.bool true), (Value.int .i64 4), (Value.bool false), (Value.int .i64 1), (Value.bool true), (Value.int .i64 5)] 90 .exact)
  have q52 : Has (H51.push (.cells [(Value.bool true), (Value.int .i64 4), (Value.bool false), (Value.int .i64 1), (Value.bool true), (Value.int .i64 5)] 90 .exact)) H51.n (.cells [(Value.bool true), (Value.int .i64 4), (Value.bool false), (Value.int .i64 1), (Value.bool true), (Value.int .i64 5)] 90 .exact) := Has.push_self _ _
  obtain ⟨b52, hb52⟩ : ∃ x, x = H51.n := ⟨_, rfl⟩
  rw [← hb52] at q52 ⊢
  generalize H51.push (.cells [(Value.bool true), (Value.int .i64 4), (Value.bool false), (Value.int .i64 1), (Value.bool true), (Value.int .i64 5)] 90 .exact) = H52 at e52 q52 ⊢
  refine ref_ok fun r53 H53 k53 e53 => ?_
  obtain ⟨x53_0, x53_1, x53_2, x53_3, x53_4, x53_5, x53_6, x53_7, rfl⟩ := row8 k53
  refine obP_of (a := .agg ⟨[(Value.int .i64 2), (Value.int .i64 0), x53_0, x53_1, x53_2, x53_3, x53_4, x53_5, x53_6, x53_7]⟩) rfl ?_
  refine ref_ok fun r54 H54 k54 e54 => ?_
  obtain ⟨x54_0, x54_1, x54_2, x54_3, x54_4, x54_5, x54_6, x54_7, rfl⟩ := row8 k54
  refine obP_of (a := .agg ⟨[(Value.int .i64 0), (Value.int .i64 1), x54_0, x54_1, x54_2, x54_3, x54_4, x54_5, x54_6, x54_7]⟩) rfl ?_
  refine obP_of (a := .agg ⟨[(Value.int .i64 1), (Value.int .i64 2), (Value.string ⟨#[]⟩), (Value.slice none 0 0)]⟩) rfl ?_
  refine con_ok (cs := [(Value.int .i64 1), (Value.int .i64 2), (Value.string ⟨#[]⟩), (Value.slice none 0 0)]) ⟨rfl, rfl⟩ fun r55 H55 k55 e55 => ?_
  obtain ⟨x55_0, x55_1, x55_2, x55_3, x55_4, x55_5, x55_6, x55_7, rfl⟩ := row8 k55
  refine obP_of (a := .agg ⟨[(Value.int .i64 0), (Value.int .i64 2), x55_0, x55_1, x55_2, x55_3, x55_4, x55_5, x55_6, x55_7]⟩) rfl ?_
  refine bldSl_ok (cs := [(Value.int .i64 2), (Value.int .i64 0), x53_0, x53_1, x53_2, x53_3, x53_4, x53_5, x53_6, x53_7, (Value.int .i64 0), (Value.int .i64 1), x54_0, x54_1, x54_2, x54_3, x54_4, x54_5, x54_6, x54_7, (Value.int .i64 0), (Value.int .i64 2), x55_0, x55_1, x55_2, x55_3, x55_4, x55_5, x55_6, x55_7]) rfl rfl rfl ?_
  have e56 := Ext.push H55 (.cells [(Value.int .i64 2), (Value.int .i64 0), x53_0, x53_1, x53_2, x53_3, x53_4, x53_5, x53_6, x53_7, (Value.int .i64 0), (Value.int .i64 1), x54_0, x54_1, x54_2, x54_3, x54_4, x54_5, x54_6, x54_7, (Value.int .i64 0), (Value.int .i64 2), x55_0, x55_1, x55_2, x55_3, x55_4, x55_5, x55_6, x55_7] 137 .exact)
  have q56 : Has (H55.push (.cells [(Value.int .i64 2), (Value.int .i64 0), x53_0, x53_1, x53_2, x53_3, x53_4, x53_5, x53_6, x53_7, (Value.int .i64 0), (Value.int .i64 1), x54_0, x54_1, x54_2, x54_3, x54_4, x54_5, x54_6, x54_7, (Value.int .i64 0), (Value.int .i64 2), x55_0, x55_1, x55_2, x55_3, x55_4, x55_5, x55_6, x55_7] 137 .exact)) H55.n (.cells [(Value.int .i64 2), (Value.int .i64 0), x53_0, x53_1, x53_2, x53_3, x53_4, x53_5, x53_6, x53_7, (Value.int .i64 0), (Value.int .i64 1), x54_0, x54_1, x54_2, x54_3, x54_4, x54_5, x54_6, x54_7, (Value.int .i64 0), (Value.int .i64 2), x55_0, x55_1, x55_2, x55_3, x55_4, x55_5, x55_6, x55_7] 137 .exact) := Has.push_self _ _
  obtain ⟨b56, hb56⟩ : ∃ x, x = H55.n := ⟨_, rfl⟩
  rw [← hb56] at q56 ⊢
  generalize H55.push (.cells [(Value.int .i64 2), (Value.int .i64 0), x53_0, x53_1, x53_2, x53_3, x53_4, x53_5, x53_6, x53_7, (Value.int .i64 0), (Value.int .i64 1), x54_0, x54_1, x54_2, x54_3, x54_4, x54_5, x54_6, x54_7, (Value.int .i64 0), (Value.int .i64 2), x55_0, x55_1, x55_2, x55_3, x55_4, x55_5, x55_6, x55_7] 137 .exact) = H56 at e56 q56 ⊢
  refine obP_of (a := .agg ⟨[(Value.int .i64 3), (Value.slice (some ⟨b52, 0, none⟩) 3 3), (Value.slice (some ⟨b56, 0, none⟩) 3 3)]⟩) rfl ?_
  refine bldSl_ok (cs := [(Value.int .i64 0), (Value.slice (some ⟨b14, 0, none⟩) 1 1), (Value.slice (some ⟨b22, 0, none⟩) 3 3), (Value.int .i64 1), (Value.slice (some ⟨b23, 0, none⟩) 2 2), (Value.slice (some ⟨b28, 0, none⟩) 4 4), (Value.int .i64 2), (Value.slice (some ⟨b30, 0, none⟩) 3 3), (Value.slice (some ⟨b37, 0, none⟩) 4 4), (Value.int .i64 2), (Value.slice none 0 0), (Value.slice (some ⟨b39, 0, none⟩) 1 1), (Value.int .i64 3), (Value.slice (some ⟨b41, 0, none⟩) 1 1), (Value.slice (some ⟨b43, 0, none⟩) 2 2), (Value.int .i64 3), (Value.slice (some ⟨b45, 0, none⟩) 1 1), (Value.slice (some ⟨b49, 0, none⟩) 2 2), (Value.int .i64 3), (Value.slice (some ⟨b52, 0, none⟩) 3 3), (Value.slice (some ⟨b56, 0, none⟩) 3 3)]) rfl rfl rfl ?_
  have e57 := Ext.push H56 (.cells [(Value.int .i64 0), (Value.slice (some ⟨b14, 0, none⟩) 1 1), (Value.slice (some ⟨b22, 0, none⟩) 3 3), (Value.int .i64 1), (Value.slice (some ⟨b23, 0, none⟩) 2 2), (Value.slice (some ⟨b28, 0, none⟩) 4 4), (Value.int .i64 2), (Value.slice (some ⟨b30, 0, none⟩) 3 3), (Value.slice (some ⟨b37, 0, none⟩) 4 4), (Value.int .i64 2), (Value.slice none 0 0), (Value.slice (some ⟨b39, 0, none⟩) 1 1), (Value.int .i64 3), (Value.slice (some ⟨b41, 0, none⟩) 1 1), (Value.slice (some ⟨b43, 0, none⟩) 2 2), (Value.int .i64 3), (Value.slice (some ⟨b45, 0, none⟩) 1 1), (Value.slice (some ⟨b49, 0, none⟩) 2 2), (Value.int .i64 3), (Value.slice (some ⟨b52, 0, none⟩) 3 3), (Value.slice (some ⟨b56, 0, none⟩) 3 3)] 37 .exact)
  have q57 : Has (H56.push (.cells [(Value.int .i64 0), (Value.slice (some ⟨b14, 0, none⟩) 1 1), (Value.slice (some ⟨b22, 0, none⟩) 3 3), (Value.int .i64 1), (Value.slice (some ⟨b23, 0, none⟩) 2 2), (Value.slice (some ⟨b28, 0, none⟩) 4 4), (Value.int .i64 2), (Value.slice (some ⟨b30, 0, none⟩) 3 3), (Value.slice (some ⟨b37, 0, none⟩) 4 4), (Value.int .i64 2), (Value.slice none 0 0), (Value.slice (some ⟨b39, 0, none⟩) 1 1), (Value.int .i64 3), (Value.slice (some ⟨b41, 0, none⟩) 1 1), (Value.slice (some ⟨b43, 0, none⟩) 2 2), (Value.int .i64 3), (Value.slice (some ⟨b45, 0, none⟩) 1 1), (Value.slice (some ⟨b49, 0, none⟩) 2 2), (Value.int .i64 3), (Value.slice (some ⟨b52, 0, none⟩) 3 3), (Value.slice (some ⟨b56, 0, none⟩) 3 3)] 37 .exact)) H56.n (.cells [(Value.int .i64 0), (Value.slice (some ⟨b14, 0, none⟩) 1 1), (Value.slice (some ⟨b22, 0, none⟩) 3 3), (Value.int .i64 1), (Value.slice (some ⟨b23, 0, none⟩) 2 2), (Value.slice (some ⟨b28, 0, none⟩) 4 4), (Value.int .i64 2), (Value.slice (some ⟨b30, 0, none⟩) 3 3), (Value.slice (some ⟨b37, 0, none⟩) 4 4), (Value.int .i64 2), (Value.slice none 0 0), (Value.slice (some ⟨b39, 0, none⟩) 1 1), (Value.int .i64 3), (Value.slice (some ⟨b41, 0, none⟩) 1 1), (Value.slice (some ⟨b43, 0, none⟩) 2 2), (Value.int .i64 3), (Value.slice (some ⟨b45, 0, none⟩) 1 1), (Value.slice (some ⟨b49, 0, none⟩) 2 2), (Value.int .i64 3), (Value.slice (some ⟨b52, 0, none⟩) 3 3), (Value.slice (some ⟨b56, 0, none⟩) 3 3)] 37 .exact) := Has.push_self _ _
  obtain ⟨b57, hb57⟩ : ∃ x, x = H56.n := ⟨_, rfl⟩
  rw [← hb57] at q57 ⊢
  generalize H56.push (.cells [(Value.int .i64 0), (Value.slice (some ⟨b14, 0, none⟩) 1 1), (Value.slice (some ⟨b22, 0, none⟩) 3 3), (Value.int .i64 1), (Value.slice (some ⟨b23, 0, none⟩) 2 2), (Value.slice (some ⟨b28, 0, none⟩) 4 4), (Value.int .i64 2), (Value.slice (some ⟨b30, 0, none⟩) 3 3), (Value.slice (some ⟨b37, 0, none⟩) 4 4), (Value.int .i64 2), (Value.slice none 0 0), (Value.slice (some ⟨b39, 0, none⟩) 1 1), (Value.int .i64 3), (Value.slice (some ⟨b41, 0, none⟩) 1 1), (Value.slice (some ⟨b43, 0, none⟩) 2 2), (Value.int .i64 3), (Value.slice (some ⟨b45, 0, none⟩) 1 1), (Value.slice (some ⟨b49, 0, none⟩) 2 2), (Value.int .i64 3), (Value.slice (some ⟨b52, 0, none⟩) 3 3), (Value.slice (some ⟨b56, 0, none⟩) 3 3)] 37 .exact) = H57 at e57 q57 ⊢
  have t58 := q13.ks ((((((((((((((((((((((((((((((((((((((((((((((KS.refl _ _ _ _ : KS N [] [99] _ _)).trans (KS.ext e14)).trans (KS.ext e15)).trans (KS.ext e16)).trans (KS.ext e17)).trans (KS.ext e18)).trans (KS.ext e19)).trans (KS.ext e20)).trans (KS.ext e21)).trans (KS.ext e22)).trans (KS.ext e23)).trans (KS.ext e24)).trans (KS.ext e25)).trans (KS.ext e26)).trans (KS.ext e27)).trans (KS.ext e28)).trans (KS.ext e29)).trans (KS.ext e30)).trans (KS.ext e31)).trans (KS.ext e32)).trans (KS.ext e33)).trans (KS.ext e34)).trans (KS.ext e35)).trans (KS.ext e36)).trans (KS.ext e37)).trans (KS.ext e38)).trans (KS.ext e39)).trans (KS.ext e40)).trans (KS.ext e41)).trans (KS.ext e42)).trans (KS.ext e43)).trans (KS.ext e44)).trans (KS.ext e45)).trans (KS.ext e46)).trans (KS.ext e47)).trans (KS.ext e48)).trans (KS.ext e49)).trans (KS.ext e50)).trans (KS.ext e51)).trans (KS.ext e52)).trans (KS.ext e53)).trans (KS.ext e54)).trans (KS.ext e55)).trans (KS.ext e56)).trans (KS.ext e57)) (by decide) (by decide)
  rw [fa_ptr, obP_some]
  refine st_ok (c' := [(Value.slice (some ⟨b2, 0, none⟩) 8 8), (Value.slice (some ⟨b12, 0, none⟩) 4 4), (Value.slice (some ⟨b57, 0, none⟩) 7 7)]) t58 rfl rfl rfl rfl (by simp) rfl rfl ?_
  have k58 : KS N [] [28] H57 (H57.upd b3 (.cells [(Value.slice (some ⟨b2, 0, none⟩) 8 8), (Value.slice (some ⟨b12, 0, none⟩) 4 4), (Value.slice (some ⟨b57, 0, none⟩) 7 7)] 28 .exact)) := KS.upd _ t58 hb3 (by simp)
  have q58 : Has (H57.upd b3 (.cells [(Value.slice (some ⟨b2, 0, none⟩) 8 8), (Value.slice (some ⟨b12, 0, none⟩) 4 4), (Value.slice (some ⟨b57, 0, none⟩) 7 7)] 28 .exact)) b3 (.cells [(Value.slice (some ⟨b2, 0, none⟩) 8 8), (Value.slice (some ⟨b12, 0, none⟩) 4 4), (Value.slice (some ⟨b57, 0, none⟩) 7 7)] 28 .exact) := t58.upd_self _
  generalize H57.upd b3 (.cells [(Value.slice (some ⟨b2, 0, none⟩) 8 8), (Value.slice (some ⟨b12, 0, none⟩) 4 4), (Value.slice (some ⟨b57, 0, none⟩) 7 7)] 28 .exact) = H58 at k58 q58 ⊢
  have K58 : KS N [] [28] H58 H58 := KS.refl _ _ _ _
  have K57 : KS N [] [28] H57 H58 := KS.trans (k58) K58
  have K56 : KS N [] [28] H56 H58 := KS.trans (KS.ext e57) K57
  have K55 : KS N [] [28] H55 H58 := KS.trans (KS.ext e56) K56
  have K54 : KS N [] [28] H54 H58 := KS.trans (KS.ext e55) K55
  have K53 : KS N [] [28] H53 H58 := KS.trans (KS.ext e54) K54
  have K52 : KS N [] [28] H52 H58 := KS.trans (KS.ext e53) K53
  have K51 : KS N [] [28] H51 H58 := KS.trans (KS.ext e52) K52
  have K50 : KS N [] [28] H50 H58 := KS.trans (KS.ext e51) K51
  have K49 : KS N [] [28] H49 H58 := KS.trans (KS.ext e50) K50
  have K48 : KS N [] [28] H48 H58 := KS.trans (KS.ext e49) K49
  have K47 : KS N [] [28] H47 H58 := KS.trans (KS.ext e48) K48
  have K46 : KS N [] [28] H46 H58 := KS.trans (KS.ext e47) K47
  have K45 : KS N [] [28] H45 H58 := KS.trans (KS.ext e46) K46
  have K44 : KS N [] [28] H44 H58 := KS.trans (KS.ext e45) K45
  have K43 : KS N [] [28] H43 H58 := KS.trans (KS.ext e44) K44
  have K42 : KS N [] [28] H42 H58 := KS.trans (KS.ext e43) K43
  have K41 : KS N [] [28] H41 H58 := KS.trans (KS.ext e42) K42
  have K40 : KS N [] [28] H40 H58 := KS.trans (KS.ext e41) K41
  have K39 : KS N [] [28] H39 H58 := KS.trans (KS.ext e40) K40
  have K38 : KS N [] [28] H38 H58 := KS.trans (KS.ext e39) K39
  have K37 : KS N [] [28] H37 H58 := KS.trans (KS.ext e38) K38
  have K36 : KS N [] [28] H36 H58 := KS.trans (KS.ext e37) K37
  have K35 : KS N [] [28] H35 H58 := KS.trans (KS.ext e36) K36
  have K34 : KS N [] [28] H34 H58 := KS.trans (KS.ext e35) K35
  have K33 : KS N [] [28] H33 H58 := KS.trans (KS.ext e34) K34
  have K32 : KS N [] [28] H32 H58 := KS.trans (KS.ext e33) K33
  have K31 : KS N [] [28] H31 H58 := KS.trans (KS.ext e32) K32
  have K30 : KS N [] [28] H30 H58 := KS.trans (KS.ext e31) K31
  have K29 : KS N [] [28] H29 H58 := KS.trans (KS.ext e30) K30
  have K28 : KS N [] [28] H28 H58 := KS.trans (KS.ext e29) K29
  have K27 : KS N [] [28] H27 H58 := KS.trans (KS.ext e28) K28
  have K26 : KS N [] [28] H26 H58 := KS.trans (KS.ext e27) K27
  have K25 : KS N [] [28] H25 H58 := KS.trans (KS.ext e26) K26
  have K24 : KS N [] [28] H24 H58 := KS.trans (KS.ext e25) K25
  have K23 : KS N [] [28] H23 H58 := KS.trans (KS.ext e24) K24
  have K22 : KS N [] [28] H22 H58 := KS.trans (KS.ext e23) K23
  have K21 : KS N [] [28] H21 H58 := KS.trans (KS.ext e22) K22
  have K20 : KS N [] [28] H20 H58 := KS.trans (KS.ext e21) K21
  have K19 : KS N [] [28] H19 H58 := KS.trans (KS.ext e20) K20
  have K18 : KS N [] [28] H18 H58 := KS.trans (KS.ext e19) K19
  have K17 : KS N [] [28] H17 H58 := KS.trans (KS.ext e18) K18
  have K16 : KS N [] [28] H16 H58 := KS.trans (KS.ext e17) K17
  have K15 : KS N [] [28] H15 H58 := KS.trans (KS.ext e16) K16
  have K14 : KS N [] [28] H14 H58 := KS.trans (KS.ext e15) K15
  have K13 : KS N [] [28] H13 H58 := KS.trans (KS.ext e14) K14
  have K12 : KS N [] [28] H12 H58 := KS.trans (k13) K13
  have K11 : KS N [] [28] H11 H58 := KS.trans (KS.ext e12) K12
  have K10 : KS N [] [28] H10 H58 := KS.trans (KS.ext e11) K11
  have K9 : KS N [] [28] H9 H58 := KS.trans (KS.ext e10) K10
  have K8 : KS N [] [28] H8 H58 := KS.trans (KS.ext e9) K9
  have K7 : KS N [] [28] H7 H58 := KS.trans (KS.ext e8) K8
  have K6 : KS N [] [28] H6 H58 := KS.trans (KS.ext e7) K7
  have K5 : KS N [] [28] H5 H58 := KS.trans (KS.ext e6) K6
  have K4 : KS N [] [28] H4 H58 := KS.trans (KS.ext e5) K5
  have q4z := q4.ks K4 (by decide) (by decide)
  have q5z := q5.ks K5 (by decide) (by decide)
  have q6z := q6.ks K6 (by decide) (by decide)
  have q7z := q7.ks K7 (by decide) (by decide)
  have q8z := q8.ks K8 (by decide) (by decide)
  have q9z := q9.ks K9 (by decide) (by decide)
  have q10z := q10.ks K10 (by decide) (by decide)
  have q11z := q11.ks K11 (by decide) (by decide)
  have q12z := q12.ks K12 (by decide) (by decide)
  have q14z := q14.ks K14 (by decide) (by decide)
  have q22z := q22.ks K22 (by decide) (by decide)
  have q23z := q23.ks K23 (by decide) (by decide)
  have q28z := q28.ks K28 (by decide) (by decide)
  have q30z := q30.ks K30 (by decide) (by decide)
  have q37z := q37.ks K37 (by decide) (by decide)
  have q39z := q39.ks K39 (by decide) (by decide)
  have q41z := q41.ks K41 (by decide) (by decide)
  have q43z := q43.ks K43 (by decide) (by decide)
  have q45z := q45.ks K45 (by decide) (by decide)
  have q49z := q49.ks K49 (by decide) (by decide)
  have q52z := q52.ks K52 (by decide) (by decide)
  have q56z := q56.ks K56 (by decide) (by decide)
  have q57z := q57.ks K57 (by decide) (by decide)
  have KA : KS N [] [28, 99] H1 H58 := ((((KS.refl N [] [28, 99] H1).trans (KS.ext e2)).trans (KS.ext e3)).trans (k4.mono (by simp) (by simp))).trans (K4.mono (by simp) (by simp))
  have AP : Rows2 (PdRow H58) [[(Value.int .i64 0), (Value.slice (some ⟨b14, 0, none⟩) 1 1), (Value.slice (some ⟨b22, 0, none⟩) 3 3)], [(Value.int .i64 1), (Value.slice (some ⟨b23, 0, none⟩) 2 2), (Value.slice (some ⟨b28, 0, none⟩) 4 4)], [(Value.int .i64 2), (Value.slice (some ⟨b30, 0, none⟩) 3 3), (Value.slice (some ⟨b37, 0, none⟩) 4 4)], [(Value.int .i64 2), (Value.slice none 0 0), (Value.slice (some ⟨b39, 0, none⟩) 1 1)], [(Value.int .i64 3), (Value.slice (some ⟨b41, 0, none⟩) 1 1), (Value.slice (some ⟨b43, 0, none⟩) 2 2)], [(Value.int .i64 3), (Value.slice (some ⟨b45, 0, none⟩) 1 1), (Value.slice (some ⟨b49, 0, none⟩) 2 2)], [(Value.int .i64 3), (Value.slice (some ⟨b52, 0, none⟩) 3 3), (Value.slice (some ⟨b56, 0, none⟩) 3 3)]] sumsP := ⟨⟨_, _, rfl, rows_of (rows := List.map symCells [(⟨false, 1⟩ : Sy)]) q14z rfl (by intro r hr; simp only [List.mem_cons, List.not_mem_nil, or_false, List.map_cons, List.map_nil, strRows] at hr; subst hr; rfl) rfl, rfl⟩, ⟨⟨_, _, rfl, rows_of (rows := List.map symCells [(⟨false, 3⟩ : Sy), (⟨false, 2⟩ : Sy)]) q23z rfl (by intro r hr; simp only [List.mem_cons, List.not_mem_nil, or_false, List.map_cons, List.map_nil, strRows, sumsT] at hr; rcases hr with rfl | rfl <;> rfl) rfl, rfl⟩, ⟨⟨_, _, rfl, rows_of (rows := List.map symCells [(⟨true, 2⟩ : Sy), (⟨false, 3⟩ : Sy), (⟨false, 2⟩ : Sy)]) q30z rfl (by intro r hr; simp only [List.mem_cons, List.not_mem_nil, or_false, List.map_cons, List.map_nil, strRows, sumsT] at hr; rcases hr with rfl | rfl | rfl <;> rfl) rfl, rfl⟩, ⟨⟨_, _, rfl, RowsAt.nil _ _ _, rfl⟩, ⟨⟨_, _, rfl, rows_of (rows := List.map symCells [(⟨true, 0⟩ : Sy)]) q41z rfl (by intro r hr; simp only [List.mem_cons, List.not_mem_nil, or_false, List.map_cons, List.map_nil, strRows] at hr; subst hr; rfl) rfl, rfl⟩, ⟨⟨_, _, rfl, rows_of (rows := List.map symCells [(⟨true, 1⟩ : Sy)]) q45z rfl (by intro r hr; simp only [List.mem_cons, List.not_mem_nil, or_false, List.map_cons, List.map_nil, strRows] at hr; subst hr; rfl) rfl, rfl⟩, ⟨⟨_, _, rfl, rows_of (rows := List.map symCells [(⟨true, 4⟩ : Sy), (⟨false, 1⟩ : Sy), (⟨true, 5⟩ : Sy)]) q52z rfl (by intro r hr; simp only [List.mem_cons, List.not_mem_nil, or_false, List.map_cons, List.map_nil, strRows, sumsT] at hr; rcases hr with rfl | rfl | rfl <;> rfl) rfl, rfl⟩, trivial⟩⟩⟩⟩⟩⟩⟩
  have A : GmAt H58 (.agg ⟨[.slice (some ⟨b2, 0, none⟩) 8 8, .slice (some ⟨b12, 0, none⟩) 4 4, .slice (some ⟨b57, 0, none⟩) 7 7]⟩) (sumsG 0) := by
    refine ⟨_, _, _, rfl, rows_of (rows := sumsT.map tokCells) q4z rfl (by intro r hr; simp only [List.mem_cons, List.not_mem_nil, or_false, List.map_cons, List.map_nil, strRows, sumsT] at hr; rcases hr with rfl | rfl | rfl | rfl | rfl | rfl | rfl | rfl <;> rfl) rfl, ⟨[[Value.string ⟨#[115]⟩, .slice none 0 0, .slice (some ⟨b5, 0, none⟩) 2 2], [Value.string ⟨#[101]⟩, .slice (some ⟨b6, 0, none⟩) 1 1, .slice (some ⟨b7, 0, none⟩) 1 1], [Value.string ⟨#[109, 111, 114, 101]⟩, .slice (some ⟨b8, 0, none⟩) 2 2, .slice (some ⟨b9, 0, none⟩) 1 1], [Value.string ⟨#[102]⟩, .slice (some ⟨b10, 0, none⟩) 1 1, .slice (some ⟨b11, 0, none⟩) 2 2]], rows_of q12z rfl (by intro r hr; simp only [List.mem_cons, List.not_mem_nil, or_false, List.map_cons, List.map_nil, strRows, sumsT] at hr; rcases hr with rfl | rfl | rfl | rfl <;> rfl) rfl, ?_⟩, [[(Value.int .i64 0), (Value.slice (some ⟨b14, 0, none⟩) 1 1), (Value.slice (some ⟨b22, 0, none⟩) 3 3)], [(Value.int .i64 1), (Value.slice (some ⟨b23, 0, none⟩) 2 2), (Value.slice (some ⟨b28, 0, none⟩) 4 4)], [(Value.int .i64 2), (Value.slice (some ⟨b30, 0, none⟩) 3 3), (Value.slice (some ⟨b37, 0, none⟩) 4 4)], [(Value.int .i64 2), (Value.slice none 0 0), (Value.slice (some ⟨b39, 0, none⟩) 1 1)], [(Value.int .i64 3), (Value.slice (some ⟨b41, 0, none⟩) 1 1), (Value.slice (some ⟨b43, 0, none⟩) 2 2)], [(Value.int .i64 3), (Value.slice (some ⟨b45, 0, none⟩) 1 1), (Value.slice (some ⟨b49, 0, none⟩) 2 2)], [(Value.int .i64 3), (Value.slice (some ⟨b52, 0, none⟩) 3 3), (Value.slice (some ⟨b56, 0, none⟩) 3 3)]], rows_of q57z rfl (by intro r hr; simp only [List.mem_cons, List.not_mem_nil, or_false, List.map_cons, List.map_nil, strRows, sumsT] at hr; rcases hr with rfl | rfl | rfl | rfl | rfl | rfl | rfl <;> rfl) rfl, ?_⟩
    · exact ⟨⟨_, _, rfl, RowsAt.nil _ _ _, rows_of (rows := strRows [⟨#[118, 97, 108]⟩, ⟨#[98, 97, 100]⟩]) q5z rfl (by intro r hr; simp only [List.mem_cons, List.not_mem_nil, or_false, List.map_cons, List.map_nil, strRows, sumsT] at hr; rcases hr with rfl | rfl <;> rfl) rfl⟩, ⟨⟨_, _, rfl, rows_of (rows := strRows [⟨#[101, 110, 118]⟩]) q6z rfl (by intro r hr; simp only [List.mem_cons, List.not_mem_nil, or_false, List.map_cons, List.map_nil, strRows] at hr; subst hr; rfl) rfl, rows_of (rows := strRows [⟨#[118, 97, 108]⟩]) q7z rfl (by intro r hr; simp only [List.mem_cons, List.not_mem_nil, or_false, List.map_cons, List.map_nil, strRows] at hr; subst hr; rfl) rfl⟩, ⟨⟨_, _, rfl, rows_of (rows := strRows [⟨#[101, 110, 118]⟩, ⟨#[108, 101, 102, 116]⟩]) q8z rfl (by intro r hr; simp only [List.mem_cons, List.not_mem_nil, or_false, List.map_cons, List.map_nil, strRows, sumsT] at hr; rcases hr with rfl | rfl <;> rfl) rfl, rows_of (rows := strRows [⟨#[118, 97, 108]⟩]) q9z rfl (by intro r hr; simp only [List.mem_cons, List.not_mem_nil, or_false, List.map_cons, List.map_nil, strRows] at hr; subst hr; rfl) rfl⟩, ⟨⟨_, _, rfl, rows_of (rows := strRows [⟨#[101, 110, 118]⟩]) q10z rfl (by intro r hr; simp only [List.mem_cons, List.not_mem_nil, or_false, List.map_cons, List.map_nil, strRows] at hr; subst hr; rfl) rfl, rows_of (rows := strRows [⟨#[118, 97, 108]⟩, ⟨#[115, 105, 122, 101]⟩]) q11z rfl (by intro r hr; simp only [List.mem_cons, List.not_mem_nil, or_false, List.map_cons, List.map_nil, strRows, sumsT] at hr; rcases hr with rfl | rfl <;> rfl) rfl⟩, trivial⟩⟩⟩⟩
    · exact AP
  have hNb22 : N ≤ b22 := by
    have := (((((((((((((((((((((KS.refl N [] [28, 99] H1).trans (KS.ext e2)).trans (KS.ext e3)).trans (k4.mono (by simp) (by simp))).trans (KS.ext e5)).trans (KS.ext e6)).trans (KS.ext e7)).trans (KS.ext e8)).trans (KS.ext e9)).trans (KS.ext e10)).trans (KS.ext e11)).trans (KS.ext e12)).trans (k13.mono (by simp) (by simp))).trans (KS.ext e14)).trans (KS.ext e15)).trans (KS.ext e16)).trans (KS.ext e17)).trans (KS.ext e18)).trans (KS.ext e19)).trans (KS.ext e20)).trans (KS.ext e21)).n
    omega
  have hNb37 : N ≤ b37 := by
    have := ((((((((((((((((((((((((((((((((((((KS.refl N [] [28, 99] H1).trans (KS.ext e2)).trans (KS.ext e3)).trans (k4.mono (by simp) (by simp))).trans (KS.ext e5)).trans (KS.ext e6)).trans (KS.ext e7)).trans (KS.ext e8)).trans (KS.ext e9)).trans (KS.ext e10)).trans (KS.ext e11)).trans (KS.ext e12)).trans (k13.mono (by simp) (by simp))).trans (KS.ext e14)).trans (KS.ext e15)).trans (KS.ext e16)).trans (KS.ext e17)).trans (KS.ext e18)).trans (KS.ext e19)).trans (KS.ext e20)).trans (KS.ext e21)).trans (KS.ext e22)).trans (KS.ext e23)).trans (KS.ext e24)).trans (KS.ext e25)).trans (KS.ext e26)).trans (KS.ext e27)).trans (KS.ext e28)).trans (KS.ext e29)).trans (KS.ext e30)).trans (KS.ext e31)).trans (KS.ext e32)).trans (KS.ext e33)).trans (KS.ext e34)).trans (KS.ext e35)).trans (KS.ext e36)).n
    omega
  have hNb57 : N ≤ b57 := by
    have := ((((((((((((((((((((((((((((((((((((((((((((((((((((((((KS.refl N [] [28, 99] H1).trans (KS.ext e2)).trans (KS.ext e3)).trans (k4.mono (by simp) (by simp))).trans (KS.ext e5)).trans (KS.ext e6)).trans (KS.ext e7)).trans (KS.ext e8)).trans (KS.ext e9)).trans (KS.ext e10)).trans (KS.ext e11)).trans (KS.ext e12)).trans (k13.mono (by simp) (by simp))).trans (KS.ext e14)).trans (KS.ext e15)).trans (KS.ext e16)).trans (KS.ext e17)).trans (KS.ext e18)).trans (KS.ext e19)).trans (KS.ext e20)).trans (KS.ext e21)).trans (KS.ext e22)).trans (KS.ext e23)).trans (KS.ext e24)).trans (KS.ext e25)).trans (KS.ext e26)).trans (KS.ext e27)).trans (KS.ext e28)).trans (KS.ext e29)).trans (KS.ext e30)).trans (KS.ext e31)).trans (KS.ext e32)).trans (KS.ext e33)).trans (KS.ext e34)).trans (KS.ext e35)).trans (KS.ext e36)).trans (KS.ext e37)).trans (KS.ext e38)).trans (KS.ext e39)).trans (KS.ext e40)).trans (KS.ext e41)).trans (KS.ext e42)).trans (KS.ext e43)).trans (KS.ext e44)).trans (KS.ext e45)).trans (KS.ext e46)).trans (KS.ext e47)).trans (KS.ext e48)).trans (KS.ext e49)).trans (KS.ext e50)).trans (KS.ext e51)).trans (KS.ext e52)).trans (KS.ext e53)).trans (KS.ext e54)).trans (KS.ext e55)).trans (KS.ext e56)).n
    omega
  have hb2N : b1 < N := by have := q1.1; omega
  have hNb3 : N ≤ b3 := hb3
  have hhN : h.n ≤ b1 := by omega
  have q2z := q1.old KA (by simp) hb2N
  have E0 : ∀ H ts, KS N [] ts H58 H → KS h.n [] (28 :: 99 :: ts) h H := fun H ts k => by
    have h1N : h.n ≤ N := by omega
    exact ((KS.ext e1 : KS h.n [] (28 :: 99 :: ts) h H1).trans ((KA.from h1N).mono (by simp) (fun x hx => by simp at hx ⊢; rcases hx with rfl | rfl <;> simp))).trans ((k.from h1N).mono (by simp) (fun x hx => by simp [hx]))
  -- what is handed back
  have fin : ∀ (H : DH) pv' ts k, KS N [] ts H58 H → Has H b3 (.cells [(.slice (some ⟨b2, 0, none⟩) 8 8), (.slice (some ⟨b12, 0, none⟩) 4 4), pv'] 28 .exact) → Has H b1 (.cells [(Value.slice none 0 0), (Value.slice none 0 0), (Value.slice none 0 0)] 28 .exact) → GmAt H (.agg ⟨[(.slice (some ⟨b2, 0, none⟩) 8 8), (.slice (some ⟨b12, 0, none⟩) 4 4), pv']⟩) (sumsG k) → (∀ v h', Ext h h' → GmAt h' v (sumsG k) → Z v h') → obP (ldN 3 H (.pointer (some ⟨b3, 0, none⟩))) fun v173_225 => obP (st 3 H (.pointer (some ⟨b1, 0, none⟩)) v173_225) fun h226 => obP (ldN 3 h226 (.pointer (some ⟨b1, 0, none⟩))) fun r227 => Z r227 h226 := by
    intro H pv' ts k ks p3 p2 ga Kk
    refine obP_of (ldN_has (l := [(.slice (some ⟨b2, 0, none⟩) 8 8), (.slice (some ⟨b12, 0, none⟩) 4 4), pv']) p3 rfl) ?_
    obtain ⟨_, _, _, ev, o1, o2, o3⟩ := gmBox ga
    simp only [Value.agg.injEq, Array.mk.injEq, List.cons.injEq, and_true] at ev
    obtain ⟨rfl, rfl, rfl⟩ := ev
    refine st_ok (c' := [(.slice (some ⟨b2, 0, none⟩) 8 8), (.slice (some ⟨b12, 0, none⟩) 4 4), pv']) p2 rfl rfl rfl rfl (by simp) (by show sel true (sel true (sel (okCell pv') true false) false) false = true; rw [o3]; rfl) rfl ?_
    have p2' : Has (H.upd b1 (.cells [(.slice (some ⟨b2, 0, none⟩) 8 8), (.slice (some ⟨b12, 0, none⟩) 4 4), pv'] 28 .exact)) b1 (.cells [(.slice (some ⟨b2, 0, none⟩) 8 8), (.slice (some ⟨b12, 0, none⟩) 4 4), pv'] 28 .exact) := p2.upd_self _
    have k2 : KS h.n [] [28] H (H.upd b1 (.cells [(.slice (some ⟨b2, 0, none⟩) 8 8), (.slice (some ⟨b12, 0, none⟩) 4 4), pv'] 28 .exact)) := KS.upd _ p2 hhN (by simp)
    refine obP_of (ldN_has (l := [(.slice (some ⟨b2, 0, none⟩) 8 8), (.slice (some ⟨b12, 0, none⟩) 4 4), pv']) p2' rfl) ?_
    exact Kk _ _ (((E0 H ts ks).trans (k2.mono (by simp) (by simp))).toExt (Nat.le_refl _)) (ga.ks k2 (by decide))
  rw [show idiv .rem (.int .i64 (n : Int)) (.int .i64 4) = some (.int .i64 ((n % 4 : Nat) : Int)) from idiv_rem (m := 4) (by decide), obP_some]
  have hk4 : n % 4 < 4 := Nat.mod_lt _ (by omega)
  generalize n % 4 = k at hk4 K ⊢
  rw [ibin_eql, obP_some, asB_bool, obP_some]
  by_cases h1 : k = 1
  · subst h1
    rw [show decide (((1 : Nat) : Int) = 1) = true from rfl, bP_true]
    rw [obP_some]
    refine obP_of (ld1_has q58 (o := 0 + 2) rfl) ?_
    refine tok_ok (h := reset H58) fun g1' d1 => ?_
    have D1 : Ext H58 (lowered g1' (H58).low) := Kp.lowered d1
    have ft1 := fun l => either_ext (l := l) d1
    generalize lowered g1' (H58).low = G1 at D1 ⊢
    refine tok_ok (h := reset G1) fun g2' d2 => ?_
    have D2 : Ext G1 (lowered g2' G1.low) := Kp.lowered d2
    have ft2 := fun l => either_ext (l := l) d2
    generalize lowered g2' G1.low = G2 at D2 ⊢
    refine obP_of (a := .agg ⟨[.bool false, .int .i64 3]⟩) rfl ?_
    refine obP_of (a := .agg ⟨[.bool false, .int .i64 3]⟩) rfl ?_
    refine bldSl_ok (cs := [.bool true, .int .i64 7, .bool true, .int .i64 1, .bool false, .int .i64 3, .bool false, .int .i64 3]) rfl rfl rfl ?_
    have D3 := Ext.push G2 (.cells [.bool true, .int .i64 7, .bool true, .int .i64 1, .bool false, .int .i64 3, .bool false, .int .i64 3] 90 .exact)
    have w3 : Has (G2.push (.cells [.bool true, .int .i64 7, .bool true, .int .i64 1, .bool false, .int .i64 3, .bool false, .int .i64 3] 90 .exact)) G2.n (.cells [.bool true, .int .i64 7, .bool true, .int .i64 1, .bool false, .int .i64 3, .bool false, .int .i64 3] 90 .exact) := Has.push_self _ _
    generalize G2.n = wb at w3 ⊢
    generalize G2.push (.cells [.bool true, .int .i64 7, .bool true, .int .i64 1, .bool false, .int .i64 3, .bool false, .int .i64 3] 90 .exact) = G3 at D3 w3 ⊢
    refine ref_ok (h := reset G3) fun r4 g4' k4r d4 => ?_
    have D4 : Ext G3 (lowered g4' G3.low) := Kp.lowered d4
    have ft4 := fun l => either_ext (l := l) d4
    generalize lowered g4' G3.low = G4 at D4 ⊢
    obtain ⟨y40, y41, y42, y43, y44, y45, y46, y47, rfl⟩ := row8 k4r
    refine obP_of (a := .agg ⟨[.int .i64 3, .int .i64 0, y40, y41, y42, y43, y44, y45, y46, y47]⟩) rfl ?_
    refine ref_ok (h := reset G4) fun r5 g5' k5r d5 => ?_
    have D5 : Ext G4 (lowered g5' G4.low) := Kp.lowered d5
    have ft5 := fun l => either_ext (l := l) d5
    generalize lowered g5' G4.low = G5 at D5 ⊢
    obtain ⟨y50, y51, y52, y53, y54, y55, y56, y57, rfl⟩ := row8 k5r
    refine obP_of (a := .agg ⟨[.int .i64 2, .int .i64 0, .int .i64 0, .string ⟨#[]⟩, .slice none 0 0, .int .i64 2, .int .i64 0, .slice none 0 0]⟩) rfl ?_
    refine ref_ok (h := reset G5) fun r6 g6' k6r d6 => ?_
    have D6 : Ext G5 (lowered g6' G5.low) := Kp.lowered d6
    have ft6 := fun l => either_ext (l := l) d6
    generalize lowered g6' G5.low = G6 at D6 ⊢
    obtain ⟨y60, y61, y62, y63, y64, y65, y66, y67, rfl⟩ := row8 k6r
    refine bldSl_ok (cs := [y50, y51, y52, y53, y54, y55, y56, y57, .int .i64 2, .int .i64 0, .int .i64 0, .string ⟨#[]⟩, .slice none 0 0, .int .i64 2, .int .i64 0, .slice none 0 0, y60, y61, y62, y63, y64, y65, y66, y67]) rfl rfl rfl ?_
    have D7 := Ext.push G6 (.cells [y50, y51, y52, y53, y54, y55, y56, y57, .int .i64 2, .int .i64 0, .int .i64 0, .string ⟨#[]⟩, .slice none 0 0, .int .i64 2, .int .i64 0, .slice none 0 0, y60, y61, y62, y63, y64, y65, y66, y67] 134 .exact)
    generalize G6.push (.cells [y50, y51, y52, y53, y54, y55, y56, y57, .int .i64 2, .int .i64 0, .int .i64 0, .string ⟨#[]⟩, .slice none 0 0, .int .i64 2, .int .i64 0, .slice none 0 0, y60, y61, y62, y63, y64, y65, y66, y67] 134 .exact) = G7 at D7 ⊢
    refine obP_of (a := .agg ⟨[.int .i64 16, .int .i64 0, .int .i64 0, .string ⟨#[]⟩, .slice none 0 0, .int .i64 0, .int .i64 0, .slice (some ⟨G6.n, 0, none⟩) 3 3]⟩) rfl ?_
    refine obP_of (a := .agg ⟨[.int .i64 4, .int .i64 0, .int .i64 16, .int .i64 0, .int .i64 0, .string ⟨#[]⟩, .slice none 0 0, .int .i64 0, .int .i64 0, .slice (some ⟨G6.n, 0, none⟩) 3 3]⟩) rfl ?_
    refine ref_ok (h := reset G7) fun r8 g8' k8r d8 => ?_
    have D8 : Ext G7 (lowered g8' G7.low) := Kp.lowered d8
    have ft8 := fun l => either_ext (l := l) d8
    generalize lowered g8' G7.low = G8 at D8 ⊢
    obtain ⟨y80, y81, y82, y83, y84, y85, y86, y87, rfl⟩ := row8 k8r
    refine obP_of (a := .agg ⟨[.int .i64 0, .int .i64 1, y80, y81, y82, y83, y84, y85, y86, y87]⟩) rfl ?_
    refine ref_ok (h := reset G8) fun r9 g9' k9r d9 => ?_
    have D9 : Ext G8 (lowered g9' G8.low) := Kp.lowered d9
    have ft9 := fun l => either_ext (l := l) d9
    generalize lowered g9' G8.low = G9 at D9 ⊢
    obtain ⟨y90, y91, y92, y93, y94, y95, y96, y97, rfl⟩ := row8 k9r
    refine ref_ok (h := reset G9) fun r10 g10' k10r d10 => ?_
    have D10 : Ext G9 (lowered g10' G9.low) := Kp.lowered d10
    have ft10 := fun l => either_ext (l := l) d10
    generalize lowered g10' G9.low = G10 at D10 ⊢
    obtain ⟨z0, z1, z2, z3, z4, z5, z6, z7, rfl⟩ := row8 k10r
    refine bldSl_ok (cs := [y90, y91, y92, y93, y94, y95, y96, y97, z0, z1, z2, z3, z4, z5, z6, z7]) rfl rfl rfl ?_
    have D11 := Ext.push G10 (.cells [y90, y91, y92, y93, y94, y95, y96, y97, z0, z1, z2, z3, z4, z5, z6, z7] 134 .exact)
    generalize G10.push (.cells [y90, y91, y92, y93, y94, y95, y96, y97, z0, z1, z2, z3, z4, z5, z6, z7] 134 .exact) = G11 at D11 ⊢
    refine obP_of (a := .agg ⟨[.int .i64 4, .int .i64 0, .int .i64 0, .string ⟨#[]⟩, .slice none 0 0, .int .i64 0, .int .i64 0, .slice (some ⟨G10.n, 0, none⟩) 2 2]⟩) rfl ?_
    refine obP_of (a := .agg ⟨[.int .i64 0, .int .i64 2, .int .i64 4, .int .i64 0, .int .i64 0, .string ⟨#[]⟩, .slice none 0 0, .int .i64 0, .int .i64 0, .slice (some ⟨G10.n, 0, none⟩) 2 2]⟩) rfl ?_
    refine bldSl_ok (cs := [.int .i64 3, .int .i64 0, y40, y41, y42, y43, y44, y45, y46, y47, .int .i64 4, .int .i64 0, .int .i64 16, .int .i64 0, .int .i64 0, .string ⟨#[]⟩, .slice none 0 0, .int .i64 0, .int .i64 0, .slice (some ⟨G6.n, 0, none⟩) 3 3, .int .i64 0, .int .i64 1, y80, y81, y82, y83, y84, y85, y86, y87, .int .i64 0, .int .i64 2, .int .i64 4, .int .i64 0, .int .i64 0, .string ⟨#[]⟩, .slice none 0 0, .int .i64 0, .int .i64 0, .slice (some ⟨G10.n, 0, none⟩) 2 2]) rfl rfl rfl ?_
    have D12 := Ext.push G11 (.cells [.int .i64 3, .int .i64 0, y40, y41, y42, y43, y44, y45, y46, y47, .int .i64 4, .int .i64 0, .int .i64 16, .int .i64 0, .int .i64 0, .string ⟨#[]⟩, .slice none 0 0, .int .i64 0, .int .i64 0, .slice (some ⟨G6.n, 0, none⟩) 3 3, .int .i64 0, .int .i64 1, y80, y81, y82, y83, y84, y85, y86, y87, .int .i64 0, .int .i64 2, .int .i64 4, .int .i64 0, .int .i64 0, .string ⟨#[]⟩, .slice none 0 0, .int .i64 0, .int .i64 0, .slice (some ⟨G10.n, 0, none⟩) 2 2] 137 .exact)
    generalize hub : (Value.slice (some ⟨G11.n, 0, none⟩) 4 4) = uv
    have huv : isSlV uv = true := by subst hub; rfl
    generalize G11.push _ = G12 at D12 ⊢
    refine obP_of (a := .agg ⟨[.int .i64 3, .slice (some ⟨wb, 0, none⟩) 4 4, uv]⟩) (by subst hub; rfl) ?_
    have su := isSl_facts huv
    have DD : Ext H58 G12 := ((((((((((D1.trans D2).trans D3).trans D4).trans D5).trans D6).trans D7).trans D8).trans D9).trans D10).trans D11).trans D12
    have w12 := (((((((((w3.ext D4).ext D5).ext D6).ext D7).ext D8).ext D9).ext D10).ext D11).ext D12)
    have A12 := A.ext DD
    have gp : Grow G12 (.slice (some ⟨b57, 0, none⟩) 7 7) 37 3 [[(Value.int .i64 0), (Value.slice (some ⟨b14, 0, none⟩) 1 1), (Value.slice (some ⟨b22, 0, none⟩) 3 3)], [(Value.int .i64 1), (Value.slice (some ⟨b23, 0, none⟩) 2 2), (Value.slice (some ⟨b28, 0, none⟩) 4 4)], [(Value.int .i64 2), (Value.slice (some ⟨b30, 0, none⟩) 3 3), (Value.slice (some ⟨b37, 0, none⟩) 4 4)], [(Value.int .i64 2), (Value.slice none 0 0), (Value.slice (some ⟨b39, 0, none⟩) 1 1)], [(Value.int .i64 3), (Value.slice (some ⟨b41, 0, none⟩) 1 1), (Value.slice (some ⟨b43, 0, none⟩) 2 2)], [(Value.int .i64 3), (Value.slice (some ⟨b45, 0, none⟩) 1 1), (Value.slice (some ⟨b49, 0, none⟩) 2 2)], [(Value.int .i64 3), (Value.slice (some ⟨b52, 0, none⟩) 3 3), (Value.slice (some ⟨b56, 0, none⟩) 3 3)]] N := .inr ⟨b57, .exact, rfl, hNb57, q57z.ext DD, rfl, by intro r hr; simp only [List.mem_cons, List.not_mem_nil, or_false] at hr; rcases hr with rfl | rfl | rfl | rfl | rfl | rfl | rfl <;> rfl⟩
    have kz : KS N [] [37] H58 G12 := KS.ext DD
    refine app1 gp (Nat.le_trans (show N ≤ (H58).n by have := KA.n; omega) DD.n) rfl rfl rfl rfl rfl (by show sel true (sel true (sel (okCell uv) true false) false) false = true; rw [su.1]; rfl) (by decide) rfl fun pv' G13 gg f13 => ?_
    have k13 : KS N [] [37] G12 G13 := KS.grow gp f13 (by simp)
    have spv := isSl_facts gg.rows.isSl
    have p3 := (q58.ext DD).ks k13 (by decide) (by decide)
    have p2 := (q2z.ext DD).ks k13 (by decide) (by decide)
    rw [obP_some]
    refine st_ok (c' := [(.slice (some ⟨b2, 0, none⟩) 8 8), (.slice (some ⟨b12, 0, none⟩) 4 4), pv']) p3 rfl spv.2.1 spv.2.2.1 (by rw [spv.2.2.2]; rfl) (by simp) (by rw [spv.2.2.2]; show sel (okCell pv') true false = true; rw [spv.1]; rfl) (by rw [spv.2.2.2]; rfl) ?_
    have k14 : KS N [] [28] G13 (G13.upd b3 (.cells [(.slice (some ⟨b2, 0, none⟩) 8 8), (.slice (some ⟨b12, 0, none⟩) 4 4), pv'] 28 .exact)) := KS.upd _ p3 hNb3 (by simp)
    have p3' : Has (G13.upd b3 (.cells [(.slice (some ⟨b2, 0, none⟩) 8 8), (.slice (some ⟨b12, 0, none⟩) 4 4), pv'] 28 .exact)) b3 (.cells [(.slice (some ⟨b2, 0, none⟩) 8 8), (.slice (some ⟨b12, 0, none⟩) 4 4), pv'] 28 .exact) := p3.upd_self _
    have p2' := p2.old k14 (by simp) hb2N
    generalize G13.upd b3 (.cells [(.slice (some ⟨b2, 0, none⟩) 8 8), (.slice (some ⟨b12, 0, none⟩) 4 4), pv'] 28 .exact) = G14 at k14 p3' p2' ⊢
    refine ⟨⟨(ft1 _).2, (ft2 _).2, (ft4 _).2, (ft5 _).2, (ft6 _).2, (ft8 _).2, (ft9 _).2, (ft10 _).2⟩, ?_⟩
    have A14 : GmAt G14 (.agg ⟨[(.slice (some ⟨b2, 0, none⟩) 8 8), (.slice (some ⟨b12, 0, none⟩) 4 4), pv']⟩) (sumsG 1) := by
      obtain ⟨t1, ⟨nr, t2, t2'⟩, pr5, t3, t3'⟩ := A12.parts
      have k24 : KS N [] [28, 37] G12 G14 := (k13.mono (by simp) (by simp)).trans (k14.mono (by simp) (by simp))
      refine ⟨_, _, _, rfl, t1.ks k24 (by decide) (by decide), ⟨nr, t2.ks k24 (by decide) (by decide), t2'.mono fun a b hab => hab.ks k24 (by decide) (by decide)⟩, _, gg.rows.ks k14 (by decide) (by decide), ?_⟩
      have AP14 : Rows2 (PdRow G14) [[(Value.int .i64 0), (Value.slice (some ⟨b14, 0, none⟩) 1 1), (Value.slice (some ⟨b22, 0, none⟩) 3 3)], [(Value.int .i64 1), (Value.slice (some ⟨b23, 0, none⟩) 2 2), (Value.slice (some ⟨b28, 0, none⟩) 4 4)], [(Value.int .i64 2), (Value.slice (some ⟨b30, 0, none⟩) 3 3), (Value.slice (some ⟨b37, 0, none⟩) 4 4)], [(Value.int .i64 2), (Value.slice none 0 0), (Value.slice (some ⟨b39, 0, none⟩) 1 1)], [(Value.int .i64 3), (Value.slice (some ⟨b41, 0, none⟩) 1 1), (Value.slice (some ⟨b43, 0, none⟩) 2 2)], [(Value.int .i64 3), (Value.slice (some ⟨b45, 0, none⟩) 1 1), (Value.slice (some ⟨b49, 0, none⟩) 2 2)], [(Value.int .i64 3), (Value.slice (some ⟨b52, 0, none⟩) 3 3), (Value.slice (some ⟨b56, 0, none⟩) 3 3)]] sumsP := AP.mono fun a b hab => (hab.ext DD).ks k24 (by decide) (by decide)
      exact AP14.snoc ⟨_, _, rfl, rows_of (rows := List.map symCells letP.right) (w12.ks k24 (by decide) (by decide)) rfl (by intro r hr; simp only [letP, List.mem_cons, List.not_mem_nil, or_false, List.map_cons, List.map_nil] at hr; rcases hr with rfl | rfl | rfl | rfl <;> rfl) rfl, huv⟩
    exact fin G14 pv' [28, 37] 1 (kz.mono (by simp) (by simp) |>.trans (k13.mono (by simp) (by simp)) |>.trans (k14.mono (by simp) (by simp))) p3' p2' A14 K
  · rw [show decide ((k : Int) = 1) = false from decide_eq_false (by omega), bP_false, ibin_eql, obP_some, asB_bool, obP_some]
    by_cases h2 : k = 2
    · subst h2
      rw [show decide (((2 : Nat) : Int) = 2) = true from rfl, bP_true, obP_some]
      refine obP_of (ld1_has q58 (o := 0 + 2) rfl) ?_
      refine obP_of (a := .pointer (some ⟨b57, 6, none⟩)) rfl ?_
      rw [fa_ptr, obP_some]
      refine obP_of (a := (.slice (some ⟨b37, 0, none⟩) 4 4)) (ld1_has q57z (o := 6 + 2) rfl) ?_
      refine obP_of (a := .pointer (some ⟨b37, 20, none⟩)) rfl ?_
      rw [fa_ptr, obP_some, fa_ptr, obP_some]
      refine st_ok q37z rfl rfl rfl rfl (by simp) rfl rfl ?_
      refine fin _ (.slice (some ⟨b57, 0, none⟩) 7 7) [137] 2 (KS.upd _ q37z hNb37 (by simp)) (q58.ks (KS.upd (n0 := 0) (o := []) (ts := [137]) _ q37z (Nat.zero_le _) (by simp)) (by decide) (by decide)) (q2z.ks (KS.upd (n0 := 0) (o := []) (ts := [137]) _ q37z (Nat.zero_le _) (by simp)) (by decide) (by decide)) (A.ks (KS.upd (n0 := 0) (o := []) (ts := [137]) _ q37z (Nat.zero_le _) (by simp)) (by decide)) K
    · rw [show decide ((k : Int) = 2) = false from decide_eq_false (by omega), bP_false, ibin_eql, obP_some, asB_bool, obP_some]
      by_cases h3 : k = 3
      · subst h3
        rw [show decide (((3 : Nat) : Int) = 3) = true from rfl, bP_true, obP_some]
        refine obP_of (ld1_has q58 (o := 0 + 2) rfl) ?_
        refine obP_of (a := .pointer (some ⟨b57, 0, none⟩)) rfl ?_
        rw [fa_ptr, obP_some]
        refine obP_of (a := (.slice (some ⟨b22, 0, none⟩) 3 3)) (ld1_has q57z (o := 0 + 2) rfl) ?_
        refine obP_of (a := .agg ⟨[.int .i64 22, .int .i64 0, .int .i64 0, .string ⟨#[]⟩, .slice none 0 0, .int .i64 0, .int .i64 0, .slice none 0 0]⟩) rfl ?_
        refine obP_of (a := .pointer (some ⟨b22, 0, none⟩)) rfl ?_
        rw [fa_ptr, obP_some]
        refine st_ok q22z rfl rfl rfl rfl (by simp) rfl rfl ?_
        refine fin _ (.slice (some ⟨b57, 0, none⟩) 7 7) [137] 3 (KS.upd _ q22z hNb22 (by simp)) (q58.ks (KS.upd (n0 := 0) (o := []) (ts := [137]) _ q22z (Nat.zero_le _) (by simp)) (by decide) (by decide)) (q2z.ks (KS.upd (n0 := 0) (o := []) (ts := [137]) _ q22z (Nat.zero_le _) (by simp)) (by decide) (by decide)) (A.ks (KS.upd (n0 := 0) (o := []) (ts := [137]) _ q22z (Nat.zero_le _) (by simp)) (by decide)) K
      · rw [show decide ((k : Int) = 3) = false from decide_eq_false (by omega), bP_false]
        refine fin _ (.slice (some ⟨b57, 0, none⟩) 7 7) [] k (KS.refl _ _ _ _) q58 q2z ?_ K
        have : sumsG k = sumsG 0 := by unfold sumsG; rw [if_neg h1, if_neg (by omega)]
        rw [this]; exact A
end Go.Det
end
/- FirstAll, walked. -/
set_option linter.unusedVariables false
set_option linter.unusedSimpArgs false
set_option maxRecDepth 100000
noncomputable section
namespace Go.Det
open Go.Proofs

theorem g4F_true {P : Program} {g : FuncId} {args : List Value} {h : DH} {f : Value → DH → Foot → Prop} (H : CP P g args (reset h) fun v h1 => f v (lowered h1 h.low) (callFoot h h1)) : g4F P true g args h f := H
theorem sameRow_ok {h : DH} {b c n : Nat} {p q : Nat → Bool} {Z : Value → DH → Prop} (a : Vec h b n p) (a' : Vec h c n q) (hn : n < 1000000) (hpq : ∀ j, j < n → p j = q j) (K : Z (.bool true) h) : CP Try.prog 34 [slb b n, slb c n] h Z := by
  apply R34
  simp only [lenS_sl, ibin_neq, obP_some, decide_true, Bool.not_true, asB_bool, bP_false]
  have step : ∀ (m i : Nat), n - i ≤ m → i ≤ n → A34_1 (slb b n) (slb c n) (.int .i64 (i : Int)) h Z := by
    intro m
    have done : A34_1 (slb b n) (slb c n) (.int .i64 (n : Int)) h Z := by
      apply R34_1
      simp only [lenS_sl, ibin_lss, obP_some, asB_bool, show decide ((n : Int) < (n : Int)) = false from decide_eq_false (by omega), bP_false]
      exact K
    induction m with
    | zero =>
      intro i hm hi
      have : i = n := by omega
      subst this; exact done
    | succ m ih =>
      intro i hm hi
      by_cases hlt : i < n
      · apply R34_1
        simp only [lenS_sl, ibin_lss, obP_some, asB_bool, show decide ((i : Int) < (n : Int)) = true from decide_eq_true (by omega), bP_true, iaS_slb hlt, a.ld hlt, a'.ld hlt, neq_bool, hpq i hlt, beq_self_eq_true, Bool.not_true, bP_false]
        rw [ibin_inc (by omega), obP_some]
        exact ih (i + 1) (by omega) hlt
      · have : i = n := by omega
        subst this; exact done
  exact step _ 0 (Nat.le_refl _) (Nat.zero_le _)
theorem sameRows_ok {h : DH} {m m' k w : Nat} {bs bs' : Nat → Nat} {P Q : Nat → Nat → Bool} {Z : Value → DH → Prop} (a : Mat h m k w bs P) (a' : Mat h m' k w bs' Q) (hk : k < 1000000) (hw : w < 1000000) (hpq : ∀ i j, i < k → j < w → P i j = Q i j) (K : Z (.bool true) h) : CP Try.prog 36 [slb m k, slb m' k] h Z := by
  apply R36
  simp only [lenS_sl, ibin_neq, obP_some, decide_true, Bool.not_true, asB_bool, bP_false]
  have step : ∀ (x i : Nat), k - i ≤ x → i ≤ k → A36_1 (slb m k) (slb m' k) (.int .i64 (i : Int)) h Z := by
    intro x
    have done : A36_1 (slb m k) (slb m' k) (.int .i64 (k : Int)) h Z := by
      apply R36_1
      simp only [lenS_sl, ibin_lss, obP_some, asB_bool, show decide ((k : Int) < (k : Int)) = false from decide_eq_false (by omega), bP_false]
      exact K
    induction x with
    | zero =>
      intro i hm hi
      have : i = k := by omega
      subst this; exact done
    | succ x ih =>
      intro i hm hi
      by_cases hlt : i < k
      · apply R36_1
        simp only [lenS_sl, ibin_lss, obP_some, asB_bool, show decide ((i : Int) < (k : Int)) = true from decide_eq_true (by omega), bP_true, iaS_slb hlt, a.row hlt, a'.row hlt]
        refine sameRow_ok (a.vec i hlt) (a'.vec i hlt) hw (hpq i · hlt) ?_
        rw [bnot_bool, obP_some, asB_bool, obP_some, Bool.not_true, bP_false, ibin_inc (by omega), obP_some]
        exact ih (i + 1) (by omega) hlt
      · have : i = k := by omega
        subst this; exact done
  exact step _ 0 (Nat.le_refl _) (Nat.zero_le _)
section
variable {g : Gm} {tv nv pv : Value} {gb sb nb mf mo : Nat} {bf bo : Nat → Nat} {v5 v6 : Value} {Z : Value → DH → Prop}
/-- The rows of a grammar. -/
theorem all2 (ok : GmOk g) {h0 : DH} (gc0 : GC h0 gb tv nv pv g) (qs0 : Has h0 sb (.cells (setsC g nb mf mo) 67 .exact)) (ss0 : SS h0 g nb mf mo bf bo (nullF g) (firstF g) (followF g))
    (K : ∀ h, Ext h0 h → obP (ibin .add v6 (.int .i64 1)) fun v29_97 => A9_1 v5 v29_97 h Z) (w : Nat) : ∀ k h, g.prods.length - k ≤ w → k ≤ g.prods.length → Ext h0 h → A9_2 v5 v6 (.pointer (some ⟨gb, 0, none⟩)) (.pointer (some ⟨sb, 0, none⟩)) (.int .i64 (k : Int)) h Z := by
  have done : ∀ h, Ext h0 h → A9_2 v5 v6 (.pointer (some ⟨gb, 0, none⟩)) (.pointer (some ⟨sb, 0, none⟩)) (.int .i64 (g.prods.length : Int)) h Z := by
    intro h e
    apply R9_2
    have gc := gc0.ext e
    simp only [fa_ptr, obP_some, gc.ld.2.2.2.1, gc.len.2.2, ibin_lss, asB_bool, show decide ((g.prods.length : Int) < (g.prods.length : Int)) = false from decide_eq_false (by omega), bP_false]
    exact K h e
  induction w with
  | zero =>
    intro k h hw hk e
    have : k = g.prods.length := by omega
    subst this; exact done h e
  | succ w ih =>
    intro k h hw hk e
    by_cases hlt : k < g.prods.length
    · apply R9_2
      have gc := gc0.ext e
      have hpl := ok.p.2
      have hmem : g.prods[k] ∈ g.prods := List.getElem_mem hlt
      have hrl := ok.right _ hmem
      obtain ⟨b, q, rv, x1, _, x3, x4⟩ := gc.prodF hlt
      simp only [fa_ptr, obP_some, gc.ld.2.2.2.1, gc.len.2.2, ibin_lss, asB_bool, show decide ((k : Int) < (g.prods.length : Int)) = true from decide_eq_true (by omega), bP_true, gc.ld.2.2.2.2, x1, x3]
      refine row_ok ok gc.2 x4 (by omega) (ok.sym _ hmem) fun h2 b2 e2 _ v2 => ?_
      have e02 := e.trans e2
      have gc2 := gc0.ext e02
      obtain ⟨b', q', rv', y1, _, y3, y4⟩ := gc2.prodF hlt
      rw [ext1_0, obP_some, ext1_1, obP_some, show ldN 3 h2 (.pointer (some ⟨sb, 0, none⟩)) = some (.agg ⟨setsC g nb mf mo⟩) from ldN_has (l := setsC g nb mf mo) (qs0.ext e02) rfl, obP_some, gc2.ld.2.2.2.2, obP_some, gc2.ld.2.2.2.1, obP_some, y1, obP_some, fa_ptr, obP_some, y3, obP_some]
      refine row40_ok gc2.2 ok.t.2 (ss0.vn.ext e02) (ss0.mf.ext e02) y4 (by omega) (ok.sym _ hmem) fun h3 b3 e3 _ v3 => ?_
      rw [ext1_0, obP_some, ext1_1, obP_some]
      refine sameRow_ok (v2.ext e3) v3 (by have := ok.t.2; omega) (fun _ _ => rfl) ?_
      simp only [bnot_bool, obP_some, Bool.not_true, gotB_false, Bool.not_false, g1_true, sel_true, neq_bool, beq_self_eq_true, pk_bool, sel_false, asB_bool, bP_false]
      rw [ibin_inc (by omega), obP_some]
      exact ih (k + 1) h3 (by omega) hlt (e02.trans e3)
    · have : k = g.prods.length := by omega
      subst this; exact done h e
/-- One grammar. -/
theorem all1 (ok : GmOk g) {h : DH} {b o : Nat} {k : Nat} (hi : k < 2) (a : GmAt h (.agg ⟨[tv, nv, pv]⟩) g) (hia : iaS 3 v5 (.int .i64 (k : Int)) = some (.pointer (some ⟨b, o, none⟩))) (hld : ldN 3 h (.pointer (some ⟨b, o, none⟩)) = some (.agg ⟨[tv, nv, pv]⟩))
    (K : ∀ h', Ext h h' → A9_1 v5 (.int .i64 ((k + 1 : Nat) : Int)) h' Z) : A9_1 v5 (.int .i64 (k : Int)) h Z := by
  apply R9_1
  obtain ⟨_, _, _, ev, o1, o2, o3⟩ := gmBox a
  simp only [Value.agg.injEq, Array.mk.injEq, List.cons.injEq, and_true] at ev
  obtain ⟨rfl, rfl, rfl⟩ := ev
  rw [ibin_lss, obP_some, asB_bool, obP_some, show decide ((k : Int) < 2) = true from decide_eq_true (by omega), bP_true, hia, obP_some, hld, obP_some]
  refine al_st (cs := [tv, nv, pv]) rfl rfl (by show sel (okCell tv) (sel (okCell nv) (sel (okCell pv) true false) false) false = true; rw [o1, o2, o3]; rfl) fun h1 e1 q1 => ?_
  have gc1 : GC h1 h.n tv nv pv g := ⟨q1, a.ext e1⟩
  generalize h.n = gb at q1 gc1 ⊢
  rw [gc1.ld.2.2.2.2, obP_some]
  refine reckon_ok ok gc1.2 fun h2 nb mf mo bf bo e2 ss2 => ?_
  refine al_st (cs := setsC g nb mf mo) rfl rfl rfl fun h3 e3 q3 => ?_
  have gc3 := (gc1.ext e2).ext e3
  have ss3 := ss2.ext e3
  generalize h2.n = sb at q3 ⊢
  rw [gc3.ld.2.2.2.2, obP_some]
  refine nullable_ok ok (GmAt.reset gc3.2) fun h4 nb4 e4 _ v4 => ?_
  have E4 : Ext h3 (lowered h4 h3.low) := Kp.lowered e4
  have v4' : Vec (lowered h4 h3.low) nb4 g.nts.length (nullF g) := v4
  have ft4 := fun l => either_ext (l := l) e4
  have q4 := q3.ext E4
  have gc4 := gc3.ext E4
  have ss4 := ss3.ext E4
  generalize lowered h4 h3.low = H4 at E4 v4' q4 gc4 ss4 ⊢
  have hnl := ok.n.2
  have htl := ok.t.2
  rw [fa_ptr, obP_some, ld1_has q4 (o := 0 + 0) (v := slb nb g.nts.length) rfl, obP_some]
  refine sameRow_ok (h := reset H4) (p := nullF g) (q := nullF g) v4' ss4.vn (by omega) (fun _ _ => rfl) ?_
  have E5 : Ext H4 (lowered (reset H4) H4.low) := Kp.lowered (Ext.refl _)
  have q5 := q4.ext E5
  have gc5 := gc4.ext E5
  have ss5 := ss4.ext E5
  generalize lowered (reset H4) H4.low = H5 at E5 q5 gc5 ss5 ⊢
  simp only [bnot_bool, obP_some, Bool.not_true, gotB_false, Bool.not_false, g1_true, gc5.ld.2.2.2.2]
  refine g4F_true (first_ok ok (GmAt.reset gc5.2) fun h6 m6 b6 e6 _ _ v6' => ?_)
  have E6 : Ext H5 (lowered h6 H5.low) := Kp.lowered e6
  have m6' : Mat (lowered h6 H5.low) m6 g.nts.length g.toks.length b6 (firstF g) := ⟨v6'.hd, v6'.vec, v6'.inj⟩
  have ft6 := fun l => either_ext (l := l) e6
  have q6 := q5.ext E6
  have gc6 := gc5.ext E6
  have ss6 := ss5.ext E6
  generalize lowered h6 H5.low = H6 at E6 m6' q6 gc6 ss6 ⊢
  simp only [fa_ptr, obP_some, g1_true, ld1_has q6 (o := 0 + 1) (v := slb mf g.nts.length) rfl]
  refine g4F_true (sameRows_ok (h := reset H6) (P := firstF g) (Q := firstF g) ⟨m6'.hd, m6'.vec, m6'.inj⟩ ⟨ss6.mf.hd, ss6.mf.vec, ss6.mf.inj⟩ (by omega) (by omega) (fun _ _ _ _ => rfl) ?_)
  have E7 : Ext H6 (lowered (reset H6) H6.low) := Kp.lowered (Ext.refl _)
  have q7 := q6.ext E7
  have gc7 := gc6.ext E7
  have ss7 := ss6.ext E7
  generalize lowered (reset H6) H6.low = H7 at E7 q7 gc7 ss7 ⊢
  simp only [bnot_bool, obP_some, Bool.not_true, gotB_false, Bool.not_false, g1_true, pk_bool, sel_false, gc7.ld.2.2.2.2]
  refine g4F_true (follow_ok ok (GmAt.reset gc7.2) fun h8 m8 b8 e8 _ _ v8' => ?_)
  have E8 : Ext H7 (lowered h8 H7.low) := Kp.lowered e8
  have m8' : Mat (lowered h8 H7.low) m8 g.nts.length (g.toks.length + 1) b8 (followF g) := ⟨v8'.hd, v8'.vec, v8'.inj⟩
  have ft8 := fun l => either_ext (l := l) e8
  have q8 := q7.ext E8
  have gc8 := gc7.ext E8
  have ss8 := ss7.ext E8
  generalize lowered h8 H7.low = H8 at E8 m8' q8 gc8 ss8 ⊢
  simp only [fa_ptr, obP_some, g1_true, ld1_has q8 (o := 0 + 2) (v := slb mo g.nts.length) rfl]
  refine g4F_true (sameRows_ok (h := reset H8) (P := followF g) (Q := followF g) ⟨m8'.hd, m8'.vec, m8'.inj⟩ ⟨ss8.mo.hd, ss8.mo.vec, ss8.mo.inj⟩ (by omega) (by omega) (fun _ _ _ _ => rfl) ?_)
  have E9 : Ext H8 (lowered (reset H8) H8.low) := Kp.lowered (Ext.refl _)
  have q9 := q8.ext E9
  have gc9 := gc8.ext E9
  have ss9 := ss8.ext E9
  generalize lowered (reset H8) H8.low = H9 at E9 q9 gc9 ss9 ⊢
  simp only [bnot_bool, obP_some, Bool.not_true, g1_true, pk_bool, sel_false, asB_bool, bP_false, gF_true]
  refine ⟨⟨(ft4 _).1, (ft6 _).1, (ft8 _).1⟩, ?_⟩
  have E09 : Ext h H9 := ((((((((e1.trans e2).trans e3).trans E4).trans E5).trans E6).trans E7).trans E8).trans E9)
  refine all2 ok gc9 q9 ss9 (fun h' e' => ?_) _ 0 H9 (Nat.le_refl _) (Nat.zero_le _) (Ext.refl _)
  rw [ibin_inc (by omega), obP_some]
  exact K h' (E09.trans e')
end
theorem firstAll_walk {h : DH} {lv : Value} {l : List Nat} {a : Nat} (hb : CP Try.prog 31 [] h fun v h' => v = .bool true ∧ Ext h h') (ra : RowsAt h lv 5 1 (byteRows l)) (hl : ∀ b, b ∈ l → b < 256) (ha : a < 256) : CP Try.prog 9 [lv, .int .u8 (a : Int)] h fun v _ => v = .bool true := by
  apply R9
  refine hb.mono ?_
  rintro v h2 ⟨rfl, e⟩
  have a2 := ra.ext e
  have hlen : (byteRows l).length = l.length := by simp [byteRows]
  simp only [bnot_bool, obP_some, asB_bool, Bool.not_true, bP_false, a2.len, hlen, ibin_gtr]
  by_cases hbig : 150 < l.length
  · rw [show decide ((150 : Int) < (l.length : Int)) = true from decide_eq_true (by omega)]
    exact trivial
  · rw [show decide ((150 : Int) < (l.length : Int)) = false from decide_eq_false (by omega), bP_false]
    refine made_ok a2 (by omega) hl fun h3 hp e3 => ?_
    refine grammar_ok hp fun v g n' h4 ga hm hp' ks => ?_
    obtain ⟨tv, nv, pv, rfl, o1, o2, o3⟩ := gmBox ga
    rw [cvI_w64 ha, obP_some]
    refine sums_ok fun v' h5 e5 gs => ?_
    have ga5 := ga.ext e5
    obtain ⟨tv', nv', pv', rfl, o1', o2', o3'⟩ := gmBox gs
    refine bldSl_ok (cs := [tv, nv, pv, tv', nv', pv']) rfl rfl rfl ?_
    have e6 := Ext.push h5 (.cells [tv, nv, pv, tv', nv', pv'] 28 .exact)
    have q6 : Has (h5.push (.cells [tv, nv, pv, tv', nv', pv'] 28 .exact)) h5.n (.cells [tv, nv, pv, tv', nv', pv'] 28 .exact) := Has.push_self _ _
    generalize h5.n = lb at q6 ⊢
    generalize h5.push (.cells [tv, nv, pv, tv', nv', pv'] 28 .exact) = h6 at e6 q6 ⊢
    refine all1 (k := 0) (o := 0) (gmOk_made hm) (by omega) (ga5.ext e6) rfl (ldN_has (l := [tv, nv, pv]) q6 rfl) fun h7 e7 => ?_
    refine all1 (k := 1) (o := 3) (sums_may (a % 4)) (by omega) ((gs.ext e6).ext e7) rfl (ldN_has (l := [tv', nv', pv']) (q6.ext e7) rfl) fun h8 e8 => ?_
    apply R9_1
    rw [ibin_lss, obP_some, asB_bool, obP_some, show decide (((1 + 1 : Nat) : Int) < 2) = false from rfl, bP_false]
theorem firstAll_go {h : DH} {lv : Value} {l : List Int} {a : Int} (hb : CP Try.prog 31 [] h fun v h' => v = .bool true ∧ Ext h h') (ra : RowsAt h lv 5 1 (numRows .u8 l)) (hl : ∀ z, z ∈ l → (Lit.int .u8 z).wf = true) (ha : (Lit.int .u8 a).wf = true) : CP Try.prog 9 [lv, .int .u8 a] h fun v _ => v = .bool true := by
  rw [(bytes_of hl).1] at ra
  have h1 := wf_u8 ha
  obtain ⟨a, rfl⟩ := Int.eq_ofNat_of_zero_le h1.1
  exact firstAll_walk hb ra (bytes_of hl).2 (by omega)
end Go.Det
end

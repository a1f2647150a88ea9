/- Is there one of which a test says yes: three texts alike. -/
import Derived.Test.YtlcjcokniplghaaEA
import Derived.Test.YtlcjcokniplghaaFA
import Derived.Test.YtlcjcokniplghaaFB
import Derived.Test.YtlcjcokniplghaaGA
set_option linter.unusedVariables false
set_option linter.unusedSimpArgs false
noncomputable section
namespace Go.Det
open Go.Proofs

theorem any75 {h : DH} {v0 f : Value} {rows : List (List Value)} {Z : Value → DH → Prop} (a : RowsAt h v0 90 2 rows) (p : List Value → Bool) (hl : rows.length < 1000000)
    (hf : ∀ h' r, Ext h h' → r ∈ rows → ∀ Z : Value → DH → Prop, (∀ h'', Ext h' h'' → Z (.bool (p r)) h'') → obP (asFunc f) fun g => CP Try.prog g.1 (lapp g.2.1 (lapp [.agg ⟨r⟩] g.2.2)) h' Z)
    (K : ∀ h', Ext h h' → Z (.bool (rows.any p)) h') : CP Try.prog 75 [v0, f] h Z := by
  apply R75
  apply R116
  rw [a.len, obP_some]
  have key : ∀ (m j : Nat) h', rows.length - j ≤ m → j ≤ rows.length → Ext h h' → rows.any p = (rows.drop j).any p → A116_1 v0 f (.int .i64 (rows.length : Int)) (.int .i64 (j : Int)) h' fun v7_1 h2 => obP (ibin .geq v7_1 (Value.int .i64 0)) fun v8_3 => Z v8_3 h2 := by
    intro m
    have done : ∀ h', Ext h h' → rows.any p = (rows.drop rows.length).any p → A116_1 v0 f (.int .i64 (rows.length : Int)) (.int .i64 (rows.length : Int)) h' fun v7_1 h2 => obP (ibin .geq v7_1 (Value.int .i64 0)) fun v8_3 => Z v8_3 h2 := by
      intro h' e he
      apply R116_1
      simp only [ibin_lss, obP_some, asB_bool, show decide ((rows.length : Int) < (rows.length : Int)) = false from decide_eq_false (by omega), bP_false, ibin_geq, show decide ((0 : Int) ≤ -1) = false from rfl]
      have := K h' e
      rw [he, List.drop_length] at this
      exact this
    induction m with
    | zero =>
      intro j h' hm hj e he
      have : j = rows.length := by omega
      subst this; exact done h' e he
    | succ m ih =>
      intro j h' hm hj e he
      by_cases hlt : j < rows.length
      · apply R116_1
        obtain ⟨b, q, c, md, k1, k2, k3, k4, k5, k6⟩ := (a.ext e).at_ (k := .i64) (j := j) (List.getElem?_eq_getElem hlt)
        simp only [ibin_lss, obP_some, asB_bool, show decide ((j : Int) < (rows.length : Int)) = true from decide_eq_true (by omega), bP_true, k1]
        refine obP_of (ldN_has k3 k4) ?_
        have hz := hf h' rows[j] e (List.getElem_mem hlt)
        refine hz _ fun h'' e2 => ?_
        rw [asB_bool, obP_some]
        have hd : (rows.drop j).any p = (p rows[j] || (rows.drop (j + 1)).any p) := by rw [List.drop_eq_getElem_cons hlt]; rfl
        cases hp : p rows[j] with
        | true =>
          rw [bP_true, ibin_geq, obP_some, show decide ((0 : Int) ≤ (j : Int)) = true from decide_eq_true (by omega)]
          have := K h'' (e.trans e2)
          rw [he, hd, hp] at this
          exact this
        | false =>
          rw [bP_false, ibin_inc (by omega), obP_some]
          exact ih (j + 1) h'' (by omega) hlt (e.trans e2) (by rw [he, hd, hp]; rfl)
      · have : j = rows.length := by omega
        subst this; exact done h' e he
  exact key _ 0 h (Nat.le_refl _) (Nat.zero_le _) (Ext.refl h) rfl

theorem any92 {h : DH} {v0 f : Value} {rows : List (List Value)} {Z : Value → DH → Prop} (a : RowsAt h v0 37 3 rows) (p : List Value → Bool) (hl : rows.length < 1000000)
    (hf : ∀ h' r, Ext h h' → r ∈ rows → ∀ Z : Value → DH → Prop, (∀ h'', Ext h' h'' → Z (.bool (p r)) h'') → obP (asFunc f) fun g => CP Try.prog g.1 (lapp g.2.1 (lapp [.agg ⟨r⟩] g.2.2)) h' Z)
    (K : ∀ h', Ext h h' → Z (.bool (rows.any p)) h') : CP Try.prog 92 [v0, f] h Z := by
  apply R92
  apply R124
  rw [a.len, obP_some]
  have key : ∀ (m j : Nat) h', rows.length - j ≤ m → j ≤ rows.length → Ext h h' → rows.any p = (rows.drop j).any p → A124_1 v0 f (.int .i64 (rows.length : Int)) (.int .i64 (j : Int)) h' fun v7_1 h2 => obP (ibin .geq v7_1 (Value.int .i64 0)) fun v8_3 => Z v8_3 h2 := by
    intro m
    have done : ∀ h', Ext h h' → rows.any p = (rows.drop rows.length).any p → A124_1 v0 f (.int .i64 (rows.length : Int)) (.int .i64 (rows.length : Int)) h' fun v7_1 h2 => obP (ibin .geq v7_1 (Value.int .i64 0)) fun v8_3 => Z v8_3 h2 := by
      intro h' e he
      apply R124_1
      simp only [ibin_lss, obP_some, asB_bool, show decide ((rows.length : Int) < (rows.length : Int)) = false from decide_eq_false (by omega), bP_false, ibin_geq, show decide ((0 : Int) ≤ -1) = false from rfl]
      have := K h' e
      rw [he, List.drop_length] at this
      exact this
    induction m with
    | zero =>
      intro j h' hm hj e he
      have : j = rows.length := by omega
      subst this; exact done h' e he
    | succ m ih =>
      intro j h' hm hj e he
      by_cases hlt : j < rows.length
      · apply R124_1
        obtain ⟨b, q, c, md, k1, k2, k3, k4, k5, k6⟩ := (a.ext e).at_ (k := .i64) (j := j) (List.getElem?_eq_getElem hlt)
        simp only [ibin_lss, obP_some, asB_bool, show decide ((j : Int) < (rows.length : Int)) = true from decide_eq_true (by omega), bP_true, k1]
        refine obP_of (ldN_has k3 k4) ?_
        have hz := hf h' rows[j] e (List.getElem_mem hlt)
        refine hz _ fun h'' e2 => ?_
        rw [asB_bool, obP_some]
        have hd : (rows.drop j).any p = (p rows[j] || (rows.drop (j + 1)).any p) := by rw [List.drop_eq_getElem_cons hlt]; rfl
        cases hp : p rows[j] with
        | true =>
          rw [bP_true, ibin_geq, obP_some, show decide ((0 : Int) ≤ (j : Int)) = true from decide_eq_true (by omega)]
          have := K h'' (e.trans e2)
          rw [he, hd, hp] at this
          exact this
        | false =>
          rw [bP_false, ibin_inc (by omega), obP_some]
          exact ih (j + 1) h'' (by omega) hlt (e.trans e2) (by rw [he, hd, hp]; rfl)
      · have : j = rows.length := by omega
        subst this; exact done h' e he
  exact key _ 0 h (Nat.le_refl _) (Nat.zero_le _) (Ext.refl h) rfl

theorem any121 {h : DH} {v0 f : Value} {rows : List (List Value)} {Z : Value → DH → Prop} (a : RowsAt h v0 9 1 rows) (p : List Value → Bool) (hl : rows.length < 1000000)
    (hf : ∀ h' r, Ext h h' → r ∈ rows → ∀ Z : Value → DH → Prop, (∀ h'', Ext h' h'' → Z (.bool (p r)) h'') → obP (asFunc f) fun g => CP Try.prog g.1 (lapp g.2.1 (lapp [r.headD undef] g.2.2)) h' Z)
    (K : ∀ h', Ext h h' → Z (.bool (rows.any p)) h') : CP Try.prog 121 [v0, f] h Z := by
  apply R121
  apply R136
  rw [a.len, obP_some]
  have key : ∀ (m j : Nat) h', rows.length - j ≤ m → j ≤ rows.length → Ext h h' → rows.any p = (rows.drop j).any p → A136_1 v0 f (.int .i64 (rows.length : Int)) (.int .i64 (j : Int)) h' fun v7_1 h2 => obP (ibin .geq v7_1 (Value.int .i64 0)) fun v8_3 => Z v8_3 h2 := by
    intro m
    have done : ∀ h', Ext h h' → rows.any p = (rows.drop rows.length).any p → A136_1 v0 f (.int .i64 (rows.length : Int)) (.int .i64 (rows.length : Int)) h' fun v7_1 h2 => obP (ibin .geq v7_1 (Value.int .i64 0)) fun v8_3 => Z v8_3 h2 := by
      intro h' e he
      apply R136_1
      simp only [ibin_lss, obP_some, asB_bool, show decide ((rows.length : Int) < (rows.length : Int)) = false from decide_eq_false (by omega), bP_false, ibin_geq, show decide ((0 : Int) ≤ -1) = false from rfl]
      have := K h' e
      rw [he, List.drop_length] at this
      exact this
    induction m with
    | zero =>
      intro j h' hm hj e he
      have : j = rows.length := by omega
      subst this; exact done h' e he
    | succ m ih =>
      intro j h' hm hj e he
      by_cases hlt : j < rows.length
      · apply R136_1
        obtain ⟨b, q, c, md, k1, k2, k3, k4, k5, k6⟩ := (a.ext e).at_ (k := .i64) (j := j) (List.getElem?_eq_getElem hlt)
        simp only [ibin_lss, obP_some, asB_bool, show decide ((j : Int) < (rows.length : Int)) = true from decide_eq_true (by omega), bP_true, k1]
        have hh : ld1 h' (.pointer (some ⟨b, q, none⟩)) = some (rows[j].headD undef) := by
          have := k6 0 (by omega)
          rw [Nat.add_zero] at this
          refine ld1_has k3 (this.trans ?_)
          match rows[j], k5 with
          | [x], _ => rfl
        rw [hh, obP_some]
        have hz := hf h' rows[j] e (List.getElem_mem hlt)
        refine hz _ fun h'' e2 => ?_
        rw [asB_bool, obP_some]
        have hd : (rows.drop j).any p = (p rows[j] || (rows.drop (j + 1)).any p) := by rw [List.drop_eq_getElem_cons hlt]; rfl
        cases hp : p rows[j] with
        | true =>
          rw [bP_true, ibin_geq, obP_some, show decide ((0 : Int) ≤ (j : Int)) = true from decide_eq_true (by omega)]
          have := K h'' (e.trans e2)
          rw [he, hd, hp] at this
          exact this
        | false =>
          rw [bP_false, ibin_inc (by omega), obP_some]
          exact ih (j + 1) h'' (by omega) hlt (e.trans e2) (by rw [he, hd, hp]; rfl)
      · have : j = rows.length := by omega
        subst this; exact done h' e he
  exact key _ 0 h (Nat.le_refl _) (Nat.zero_le _) (Ext.refl h) rfl
end Go.Det
end
/- Which grammars may be: a set of texts, names, symbols, productions. -/
set_option linter.unusedVariables false
set_option linter.unusedSimpArgs false
set_option maxRecDepth 100000
noncomputable section
namespace Go.Det
open Go.Proofs

theorem bytes_ne {a b : ByteArray} (h : a ≠ b) : (a == b) = false := by
  cases hh : a == b with
  | false => rfl
  | true =>
    exfalso
    apply h
    have hh : ByteArray.beq a b = true := hh
    unfold ByteArray.beq at hh
    rcases a with ⟨a⟩
    rcases b with ⟨b⟩
    simp at hh
    subst hh; rfl
section
variable {P : Program}
theorem pureRun_under {t : TypeId} {d : TypeDesc} (h : P.underlying t = some d) : pureRun P (underlying t) = some d := by
  unfold underlying
  rw [pureRun_bind]
  show (ob (some P) fun a => pureRun P (match a.underlying t with | some d => pure d | none => stuck "no such type")) = _
  rw [ob_some, h]; rfl
theorem find_str {kt : TypeId} {s : ByteArray} {es : List MapEntry} (hu : P.underlying kt = some .string) {r : Option (Nat × Value)} (h : Instr.findNow .string (.string s) es 0 = some r) : pureRun P (Instr.findKey kt (.string s) es) = some r := by
  unfold Instr.findKey
  rw [pureRun_bind, pureRun_under hu, ob_some, h]; rfl
theorem check_str {emp : Bool} {kt : TypeId} {s : ByteArray} (hu : P.underlying kt = some .string) : pureRun P (Instr.checkKey emp 10000 kt (.string s)) = some () := by
  unfold Instr.checkKey
  rw [pureRun_bind, pureRun_under hu]; rfl
theorem findNow_str {s : ByteArray} : ∀ {es : List MapEntry} {l : List ByteArray} (i : Nat), es.map (·.key) = l.map Value.string → s ∉ l → Instr.findNow .string (.string s) es i = some none
  | [], _, _, _, _ => rfl
  | e :: es, [], _, h, _ => by simp at h
  | e :: es, x :: l, i, h, hn => by
    simp only [List.map_cons, List.cons.injEq] at h
    have hx : (s == x) = false := bytes_ne fun h' => hn (h' ▸ List.mem_cons_self ..)
    unfold Instr.findNow
    rw [h.1]
    show (match some (s == x) with | some true => _ | some false => _ | none => _) = _
    rw [hx]
    exact findNow_str (i + 1) h.2 fun h' => hn (List.mem_cons_of_mem _ h')
theorem find_miss {kt : TypeId} {emp : Bool} {s : ByteArray} {es : List MapEntry} {l : List ByteArray} (hu : P.underlying kt = some .string) (h : es.map (·.key) = l.map Value.string) (hn : s ∉ l) : dfind P emp kt (.string s) es = some none := by
  unfold dfind
  rw [show isFlat (.string s) = true from rfl, guard'_true, check_str hu, ob_some]
  unfold findAt
  rw [find_str hu (findNow_str (l := l) 0 ?_ hn)]
  · rfl
  · rw [lmap_eq, List.map_map]; exact h
end
/-- A set of texts: not there yet. -/
def SetAt (h : DH) (b : Nat) (l : List ByteArray) : Prop := ∃ es cl, Has h b (.map es cl) ∧ es.map (·.key) = l.map Value.string
theorem set_miss {h : DH} {b : Nat} {l : List ByteArray} {s : ByteArray} (a : SetAt h b l) (hn : s ∉ l) : dlookup Try.prog h 205 (.map (some b)) (.string s) false = some (.bool false) := by
  obtain ⟨es, cl, g1, g2⟩ := a
  unfold dlookup
  rw [show tmap Try.prog 205 = some ⟨9, 4⟩ from by kernel_rfl, ob_some, show tzero Try.prog 4 = some (.bool false) from by kernel_rfl, ob_some]
  show ob (h.ents b) _ = _
  rw [g1.ents, ob_some]
  show ob (dfind Try.prog (isNilL es) 9 (.string s) es) _ = _
  rw [find_miss Try.underlying9 g2 hn]; rfl
theorem set_add {h : DH} {b : Nat} {l : List ByteArray} {s : ByteArray} {F : DH → Prop} (a : SetAt h b l) (hn : s ∉ l) (K : ∀ h', SetAt h' b (l ++ [s]) → KS b [] [mapTy] h h' → F h') : obP (dmapUpdate Try.prog h 205 (.map (some b)) (.string s) (.bool true)) F := by
  obtain ⟨es, cl, g1, g2⟩ := a
  have : dmapUpdate Try.prog h 205 (.map (some b)) (.string s) (.bool true) = some (dadd h b ⟨es, cl⟩ (.string s) (.bool true)) := by
    unfold dmapUpdate
    rw [show tmap Try.prog 205 = some ⟨9, 4⟩ from by kernel_rfl, ob_some]
    show ob (h.ents b) _ = _
    rw [g1.ents, ob_some]
    show ob (dfind Try.prog false 9 (.string s) es) _ = _
    rw [find_miss Try.underlying9 g2 hn]; rfl
  rw [this, obP_some]
  refine K _ ⟨_, _, g1.upd_self _, ?_⟩ (KS.updM _ g1 (Nat.le_refl _) (by simp))
  rw [lapp_eq]
  simp [g2]

/-! ### names -/
def letterB (c : UInt8) : Bool := decide (97 ≤ c.toNat) && decide (c.toNat ≤ 122)
def nameB (l : List UInt8) : Bool := decide (1 ≤ l.length) && decide (l.length ≤ 8) && (List.range l.length).all fun i => match l[i]? with
  | some c => letterB c || (decide (i ≠ 0) && decide (48 ≤ c.toNat) && decide (c.toNat ≤ 57))
  | none => false
def txt' (s : ByteArray) : List UInt8 := s.data.toList
theorem ixStr_ok' {s : ByteArray} {i : Nat} {k : IntKind} {c : UInt8} (h : s.data.toList[i]? = some c) : ixStr (.string s) (.int k (i : Int)) = some (.int .u8 (c.toNat : Int)) := by
  show ob (lget s.data.toList i) _ = _
  rw [lget_eq, h]; rfl
theorem name_ok {h : DH} {s : ByteArray} {Z : Value → DH → Prop} (hs : nameB (txt' s) = true) (K : Z (.bool true) h) : CP Try.prog 123 [.string s] h Z := by
  apply R123
  have hsz : s.size = (txt' s).length := rfl
  unfold nameB at hs
  simp only [Bool.and_eq_true, decide_eq_true_eq, List.all_eq_true, List.mem_range] at hs
  obtain ⟨⟨h1, h8⟩, hall⟩ := hs
  simp only [lenStr_str, obP_some, ibin_lss, show decide ((s.size : Int) < 1) = false from decide_eq_false (by omega), gotB_false, Bool.not_false, g1_true, sel_true, ibin_gtr, show decide ((8 : Int) < (s.size : Int)) = false from decide_eq_false (by omega), pk_bool, sel_false, asB_bool, bP_false]
  have key : ∀ (m i : Nat), s.size - i ≤ m → i ≤ s.size → A123_1 (.string s) (.int .i64 (s.size : Int)) (.int .i64 (i : Int)) h Z := by
    intro m
    have done : A123_1 (.string s) (.int .i64 (s.size : Int)) (.int .i64 (s.size : Int)) h Z := by
      apply R123_1
      simp only [ibin_lss, obP_some, show decide ((s.size : Int) < (s.size : Int)) = false from decide_eq_false (by omega), asB_bool, bP_false]
      exact K
    induction m with
    | zero => intro i hm hi; have : i = s.size := by omega
              subst this; exact done
    | succ m ih =>
      intro i hm hi
      by_cases hlt : i < s.size
      · apply R123_1
        have hc : s.data.toList[i]? = some (txt' s)[i] := List.getElem?_eq_getElem hlt
        have hcl := hall i (by omega)
        rw [show (txt' s)[i]? = some (txt' s)[i] from hc] at hcl
        generalize (txt' s)[i] = c at hc hcl
        have nxt : obP (ibin .add (.int .i64 (i : Int)) (.int .i64 1)) fun v46_30 => A123_1 (.string s) (.int .i64 (s.size : Int)) v46_30 h Z := by
          rw [ibin_inc (by omega), obP_some]
          exact ih (i + 1) (by omega) hlt
        simp only [ibin_lss, obP_some, show decide ((i : Int) < (s.size : Int)) = true from decide_eq_true (by omega), asB_bool, bP_true, ixStr_ok' (k := .i64) hc, ibin_geq, gotB_true]
        simp only [letterB, Bool.or_eq_true, Bool.and_eq_true, decide_eq_true_eq] at hcl
        by_cases h97 : (97 : Int) ≤ (c.toNat : Int)
        · have hl : (c.toNat : Int) ≤ 122 := by rcases hcl with h | h <;> omega
          simp only [show decide ((97 : Int) ≤ (c.toNat : Int)) = true from decide_eq_true h97, g1_true, sel_true, ixStr_ok' (k := .i64) hc, ibin_leq, show decide ((c.toNat : Int) ≤ 122) = true from decide_eq_true hl, pk_bool, obP_some, bnot_bool, Bool.not_true, gotB_true, g1_false, sel_false, gotB_undef, asB_bool, bP_false]
          exact nxt
        · have hd : i ≠ 0 ∧ 48 ≤ c.toNat ∧ c.toNat ≤ 57 := by rcases hcl with h | h <;> omega
          simp only [show decide ((97 : Int) ≤ (c.toNat : Int)) = false from decide_eq_false h97, g1_false, pk_bool, sel_false, obP_some, bnot_bool, Bool.not_false, gotB_true, g1_true, sel_true, ibin_eql, show decide ((i : Int) = 0) = false from decide_eq_false (by omega), gotB_false, ixStr_ok' (k := .i64) hc, ibin_lss, ibin_gtr,
            show decide ((c.toNat : Int) < 48) = false from decide_eq_false (by omega), show decide ((57 : Int) < (c.toNat : Int)) = false from decide_eq_false (by omega), asB_bool, bP_false]
          exact nxt
      · have : i = s.size := by omega
        subst this; exact done
  exact key _ 0 (Nat.le_refl _) (Nat.zero_le _)
theorem strRows_at {l : List ByteArray} {j : Nat} {s : ByteArray} (h : l[j]? = some s) : (strRows l)[j]? = some [.string s] := by simp [strRows, h]
theorem unlike_ok {h : DH} {v : Value} {l : List ByteArray} {Z : Value → DH → Prop} (a : RowsAt h v 9 1 (strRows l)) (hn : l.Nodup) (hl : l.length < 1000000) (K : ∀ h', Ext h h' → Z (.bool true) h') : CP Try.prog 120 [v] h Z := by
  apply R120
  rw [mkM_ok, oh_some, a.len, obP_some, strRows_len]
  have key : ∀ (m j : Nat) h', l.length - j ≤ m → j ≤ l.length → KS h.n [] [mapTy] h h' → SetAt h' h.n (l.take j) → A120_1 (.map (some h.n)) v (.int .i64 (l.length : Int)) (.int .i64 (j : Int)) h' Z := by
    intro m
    have done : ∀ h', KS h.n [] [mapTy] h h' → A120_1 (.map (some h.n)) v (.int .i64 (l.length : Int)) (.int .i64 (l.length : Int)) h' Z := by
      intro h' f
      apply R120_1
      simp only [ibin_lss, obP_some, show decide ((l.length : Int) < (l.length : Int)) = false from decide_eq_false (by omega), asB_bool, bP_false]
      exact K h' (f.toExt (Nat.le_refl _))
    induction m with
    | zero => intro j h' hm hj f s; have : j = l.length := by omega
              subst this; exact done h' f
    | succ m ih =>
      intro j h' hm hj f s
      by_cases hlt : j < l.length
      · apply R120_1
        obtain ⟨b, q, c, md, k1, k2, k3, k4, k5, k6⟩ := (a.out f (by simp)).at_ (k := .i64) (strRows_at (List.getElem?_eq_getElem hlt))
        have l1 := ld1_has k3 ((k6 0 (by omega)).trans rfl)
        rw [Nat.add_zero] at l1
        have hnm : l[j] ∉ l.take j := by
          intro hm'
          have h2 := hn
          rw [← List.take_append_drop j l, List.drop_eq_getElem_cons hlt, List.nodup_append] at h2
          exact h2.2.2 _ hm' _ (List.mem_cons_self ..) rfl
        simp only [ibin_lss, obP_some, show decide ((j : Int) < (l.length : Int)) = true from decide_eq_true (by omega), asB_bool, bP_true, k1, l1, set_miss s hnm, bP_false]
        refine set_add s hnm fun h'' s2 f2 => ?_
        rw [ibin_inc (by omega), obP_some]
        refine ih (j + 1) h'' (by omega) hlt (f.trans f2) ?_
        rw [List.take_succ_eq_append_getElem hlt]; exact s2
      · have : j = l.length := by omega
        subst this; exact done h' f
  exact key _ 0 _ (Nat.le_refl _) (Nat.zero_le _) (KS.push _ _) ⟨[], 0, Has.push_self _ _, rfl⟩
theorem names_ok {h : DH} {v : Value} {l : List ByteArray} {Z : Value → DH → Prop} (a : RowsAt h v 9 1 (strRows l)) (hn : l.Nodup) (hb : ∀ s, s ∈ l → nameB (txt' s) = true) (hl : l.length < 1000000) (K : ∀ h', Ext h h' → Z (.bool true) h') : CP Try.prog 91 [v] h Z := by
  apply R91
  refine unlike_ok a hn hl fun h1 e1 => ?_
  rw [gotB_true, obP_some, g4_true, sel_true]
  refine any121 (a.ext e1) (fun _ => false) (by rw [strRows_len]; exact hl) (fun h' r e hr Z hz => ?_) fun h2 e2 => ?_
  · obtain ⟨s, hs, rfl⟩ := List.mem_map.1 hr
    show CP Try.prog 122 [.string s] h' Z
    apply R122
    refine name_ok (hb s hs) ?_
    exact hz h' (Ext.refl _)
  · have : (strRows l).any (fun _ => false) = false := by rw [List.any_eq_false]; simp
    rw [this, g1_true, bnot_bool, obP_some]
    exact K h2 (e1.trans e2)
end Go.Det
end
/- Which grammars may be: rows joined; the whole. -/
set_option linter.unusedVariables false
set_option linter.unusedSimpArgs false
set_option maxRecDepth 100000
noncomputable section
namespace Go.Det
open Go.Proofs

/-- Appended where there is room. -/
theorem appS_in {h : DH} {x : Value} {b k N n e by_ s : Nat} {md : Md} {c new : List Value} {F : Value → DH → Prop} (q : Has h b (.cells c e md)) (hm : isRo md = false) (hc : c.length = N * s) (hx : appendedSl h s x = some (n, new)) (hnl : new.length = n * s) (hk : k + n ≤ N) (hr : room (k + n) by_ s = true) (hok : lall okCell new = true)
    (K : ∀ h', Has h' b (.cells (c.take (k * s) ++ new ++ c.drop (k * s + n * s)) e md) → Kp h h' (· = b) → F (.slice (some ⟨b, 0, none⟩) (k + n) N) h') : oh (appS e by_ s h (.slice (some ⟨b, 0, none⟩) k N) x) F := by
  by_cases hn : n = 0
  · subst hn
    have : new = [] := List.eq_nil_of_length_eq_zero (by rw [hnl]; omega)
    subst this
    have key : appS e by_ s h (.slice (some ⟨b, 0, none⟩) k N) x = some (.slice (some ⟨b, 0, none⟩) k N, h) := by
      show (guard' (Nat.ble k N) (ob (appendedSl h s x) _)) = _
      rw [hx, show Nat.ble k N = true from Nat.ble_eq_true_of_le (by omega)]; rfl
    rw [key]
    refine K h ?_ (Kp.refl _ _)
    simpa using q
  · have hle : (k + n) * s ≤ N * s := Nat.mul_le_mul_right s hk
    have he : (k + n) * s = k * s + n * s := Nat.add_mul k n s
    have key : appS e by_ s h (.slice (some ⟨b, 0, none⟩) k N) x = some (.slice (some ⟨b, 0, none⟩) (k + n) N, h.upd b (.cells (c.take (k * s) ++ new ++ c.drop (k * s + n * s)) e md)) := by
      show (guard' (Nat.ble k N) (ob (appendedSl h s x) _)) = _
      rw [hx, show Nat.ble k N = true from Nat.ble_eq_true_of_le (by omega), guard'_true, ob_some]
      show dappGo h e by_ s _ n new = _
      unfold dappGo
      rw [PM.beq_false hn, sel_false]
      show dappRow h e by_ s k n N ⟨b, 0⟩ new = _
      unfold dappRow
      rw [q.row, ob_some]
      show guard' (sel (room (k + n) by_ s) (Nat.beq e e) false) (sel (Nat.ble (k + n) N) _ _) = _
      rw [hr, Nat.beq_refl, show Nat.ble (k + n) N = true from Nat.ble_eq_true_of_le hk]
      show dappIn h s k n N ⟨b, 0⟩ new = _
      unfold dappIn
      show ob (dput h b (Nat.add 0 (Nat.mul k s)) new) _ = _
      rw [show Nat.add 0 (Nat.mul k s) = k * s from Nat.zero_add _]
      unfold dput
      rw [q.row, ob_some]
      show ob (guard' (sel (isRo md) false (sel (Nat.ble (k * s + llen new) (llen c)) (lall okCell new) false)) (some (h.upd b (.cells (splice c (k * s) new) e md)))) _ = _
      rw [hm, llen_eq, llen_eq, hc, hnl, show Nat.ble (k * s + n * s) (N * s) = true from Nat.ble_eq_true_of_le (by omega), hok, splice_eq _ _ _ (by rw [hnl, hc]; omega), hnl]
      rfl
    rw [key]
    exact K _ (q.upd_self _) (Kp.upd _ (.inl rfl))
theorem strRows_flat (l : List ByteArray) : (strRows l).flatten = l.map Value.string := by
  induction l with
  | nil => rfl
  | cons a l ih => show Value.string a :: (strRows l).flatten = _; rw [ih]; rfl
theorem strs_ok (l : List ByteArray) : lall okCell (l.map Value.string) = true := by
  rw [lall_eq, List.all_eq_true]
  intro v hv
  obtain ⟨s, _, rfl⟩ := List.mem_map.1 hv; rfl
theorem grow_ok {h : DH} {n : Nat} {Z : Value → DH → Prop} (hn : 0 < n) (hl : n < 1000000) (K : ∀ h', Has h' h.n (.cells (lrep [.string ⟨#[]⟩] n) 9 .loose) → Ext h h' → Z (.slice (some ⟨h.n, 0, none⟩) 0 n) h') : CP Try.prog 119 [.slice none 0 0, .int .i64 (n : Int)] h Z := by
  apply R119
  simp only [ibin_lss, obP_some, show decide ((n : Int) < 0) = false from decide_eq_false (by omega), asB_bool, bP_false]
  apply R119_1
  have hcap : capS h (.slice none 0 0) = some (.int .i64 0) := rfl
  rw [hcap, obP_some, lenS_sl, obP_some, show (((0 : Nat) : Int)) = 0 from rfl, ibin_sub (by omega) (by omega), obP_some, show ((0 : Int) - 0) = 0 from rfl, ibin_sub (by omega) (by omega), obP_some, ibin_gtr, obP_some, asB_bool, obP_some, show decide ((0 : Int) < (n : Int) - 0) = true from decide_eq_true (by omega), bP_true]
  rw [obP_some]
  refine obP_of (a := .slice none 0 0) rfl ?_
  have happ : appI 9 16 1 [.string ⟨#[]⟩] h (.slice none 0 0) (.int .i64 ((n : Int) - 0)) = some (.slice (some ⟨h.n, 0, none⟩) n n, h.push (.cells (lrep [.string ⟨#[]⟩] n) 9 .loose)) := by
    rw [Int.sub_zero]
    show guard' true (ob (appendedInt 1 [.string ⟨#[]⟩] (.int .i64 (n : Int))) _) = _
    have : appendedInt 1 [.string ⟨#[]⟩] (.int .i64 (n : Int)) = some (n, lrep [.string ⟨#[]⟩] n) := by
      show guard' (sel true (sel (Nat.ble n (2 ^ 47)) (Nat.blt 0 n) false) false) _ = _
      rw [show Nat.ble n (2 ^ 47) = true from Nat.ble_eq_true_of_le (by omega), show Nat.blt 0 n = true from Nat.ble_eq_true_of_le hn]; rfl
    rw [this, guard'_true, ob_some]
    show dappGo h 9 16 1 _ n _ = _
    unfold dappGo
    rw [PM.beq_false (by omega), sel_false]
    show guard' (room n 16 1) _ = _
    rw [room_ok (by omega) (by omega) (by omega)]; rfl
  rw [happ, oh_some, obP_some]
  have q : Has (h.push (.cells (lrep [.string ⟨#[]⟩] n) 9 .loose)) h.n (.cells (lrep [.string ⟨#[]⟩] n) 9 .loose) := Has.push_self _ _
  have hsl : slS 9 1 (h.push (.cells (lrep [.string ⟨#[]⟩] n) 9 .loose)) (.slice (some ⟨h.n, 0, none⟩) n n) none (some (.int .i64 ((0 : Nat) : Int))) = some (.slice (some ⟨h.n, 0, none⟩) 0 n) := slS_take q (Nat.zero_le _)
  refine obP_of hsl ?_
  exact K _ q (Ext.push _ _)
theorem lrep_len {z : Value} (n : Nat) : (lrep [z] n).length = n := by
  induction n with
  | zero => rfl
  | succ n ih => show (z :: lrep [z] n).length = _; rw [List.length_cons, ih]
theorem concat_ok {h : DH} {v0 iv sv : Value} {l1 l2 : List ByteArray} {Z : Value → DH → Prop} (a : RowsAt h v0 56 1 [[iv], [sv]]) (h1 : RowsAt h iv 9 1 (strRows l1)) (h2 : RowsAt h sv 9 1 (strRows l2)) (hl : l1.length + l2.length < 1000)
    (K : ∀ v h', RowsAt h' v 9 1 (strRows (l1 ++ l2)) → Ext h h' → Z v h') : CP Try.prog 90 [v0] h Z := by
  apply R90
  have hlen : lenS v0 = some (.int .i64 2) := a.len
  obtain ⟨b0, q0, c0, md0, i0, _, j0, _, _, k0⟩ := a.at_ (k := .i64) (j := 0) rfl
  obtain ⟨b1, q1, c1, md1, i1, _, j1, _, _, k1⟩ := a.at_ (k := .i64) (j := 1) rfl
  have m0 := ld1_has j0 ((k0 0 (by omega)).trans rfl)
  have m1 := ld1_has j1 ((k1 0 (by omega)).trans rfl)
  rw [Nat.add_zero] at m0 m1
  have i0 : iaS 1 v0 (.int .i64 0) = _ := i0
  have i1 : iaS 1 v0 (.int .i64 1) = _ := i1
  rw [hlen, obP_some]
  apply R90_1
  simp only [ibin_lss, obP_some, show decide ((0 : Int) < 2) = true from rfl, asB_bool, bP_true, i0, m0, h1.len, strRows_len]
  rw [show (Value.int .i64 0) = .int .i64 ((0 : Nat) : Int) from rfl, ibin_addN (by omega), obP_some, ibin_lss, obP_some, asB_bool, obP_some, show decide (((0 + l1.length : Nat) : Int) < ((0 : Nat) : Int)) = false from decide_eq_false (by omega), bP_false, ibin_inc (by omega), obP_some]
  apply R90_1
  have i1' : iaS 1 v0 (.int .i64 ((0 + 1 : Nat) : Int)) = _ := i1
  simp only [ibin_lss, obP_some, show decide (((0 + 1 : Nat) : Int) < 2) = true from rfl, asB_bool, bP_true, i1', m1, h2.len, strRows_len]
  rw [ibin_addN (by omega), obP_some, ibin_lss, obP_some, asB_bool, obP_some, show decide (((0 + l1.length + l2.length : Nat) : Int) < 0) = false from decide_eq_false (by omega), bP_false, ibin_inc (by omega), obP_some]
  apply R90_1
  simp only [ibin_lss, obP_some, show decide (((0 + 1 + 1 : Nat) : Int) < 2) = false from rfl, asB_bool, bP_false]
  by_cases hz : l1.length + l2.length = 0
  · have e1 : l1 = [] := List.eq_nil_of_length_eq_zero (by omega)
    have e2 : l2 = [] := List.eq_nil_of_length_eq_zero (by omega)
    subst e1; subst e2
    apply R119
    simp only [List.length_nil, ibin_lss, obP_some, show decide (((0 + 0 + 0 : Nat) : Int) < 0) = false from rfl, asB_bool, bP_false]
    apply R119_1
    have hcap : capS h (.slice none 0 0) = some (.int .i64 0) := rfl
    rw [hcap, obP_some, lenS_sl, obP_some, show (((0 : Nat) : Int)) = 0 from rfl, ibin_sub (by omega) (by omega), obP_some, show ((0 : Int) - 0) = 0 from rfl, ibin_sub (by omega) (by omega), obP_some, ibin_gtr, obP_some, asB_bool, obP_some, show decide ((0 : Int) < 0 - 0) = false from rfl, bP_false]
    rw [hlen, obP_some]
    have ap1 : appS 9 16 1 h (.slice none 0 0) iv = some (.slice none 0 0, h) := by
      show guard' true (ob (appendedSl h 1 iv) _) = _
      rw [h1.appended]; rfl
    have ap2 : appS 9 16 1 h (.slice none 0 0) sv = some (.slice none 0 0, h) := by
      show guard' true (ob (appendedSl h 1 sv) _) = _
      rw [h2.appended]; rfl
    apply R90_2
    simp only [ibin_lss, obP_some, show decide ((0 : Int) < 2) = true from rfl, asB_bool, bP_true, i0, m0, ap1, oh_some]
    rw [show (Value.int .i64 0) = .int .i64 ((0 : Nat) : Int) from rfl, ibin_inc (by omega), obP_some]
    apply R90_2
    simp only [ibin_lss, obP_some, show decide (((0 + 1 : Nat) : Int) < 2) = true from rfl, asB_bool, bP_true, i1', m1, ap2, oh_some]
    rw [ibin_inc (by omega), obP_some]
    apply R90_2
    simp only [ibin_lss, obP_some, show decide (((0 + 1 + 1 : Nat) : Int) < 2) = false from rfl, asB_bool, bP_false]
    exact K _ h (RowsAt.nil _ _ _) (Ext.refl _)
  · rw [Nat.zero_add]
    refine grow_ok (by omega) (by omega) fun h3 q3 e3 => ?_
    rw [hlen, obP_some]
    apply R90_2
    have m0' := ld1_has (j0.ext e3) ((k0 0 (by omega)).trans rfl)
    rw [Nat.add_zero] at m0'
    simp only [ibin_lss, obP_some, show decide ((0 : Int) < 2) = true from rfl, asB_bool, bP_true, i0, m0']
    have ap1 := (h1.ext e3).appended
    rw [strRows_len, strRows_flat] at ap1
    refine appS_in (k := 0) q3 rfl (by rw [lrep_len]; omega) ap1 (by simp) (by omega) (room_ok (by omega) (by omega) (by omega)) (strs_ok _) fun h4 q4 f4 => ?_
    have e4 : KS h.n [] [9] h3 h4 := Kp.mono f4 fun x hx => .inr ⟨by subst hx; exact Nat.le_refl _, by subst hx; exact .of q3 rfl (by simp)⟩
    have e34 := (KS.ext (n0 := h.n) (o := []) (ts := [9]) e3).trans e4
    rw [show (Value.int .i64 0) = .int .i64 ((0 : Nat) : Int) from rfl, ibin_inc (by omega), obP_some]
    apply R90_2
    have m1' := ld1_has (j1.out e34 (by simp)) ((k1 0 (by omega)).trans rfl)
    rw [Nat.add_zero] at m1'
    simp only [ibin_lss, obP_some, show decide (((0 + 1 : Nat) : Int) < 2) = true from rfl, asB_bool, bP_true, i1', m1']
    have ap2 := (h2.out e34 (by simp)).appended
    rw [strRows_len, strRows_flat] at ap2
    refine appS_in (N := l1.length + l2.length) q4 rfl (by simp [lrep_len]) ap2 (by simp) (by omega) (room_ok (by omega) (by omega) (by omega)) (strs_ok _) fun h5 q5 f5 => ?_
    have e5 : KS h.n [] [9] h4 h5 := Kp.mono f5 fun x hx => .inr ⟨by subst hx; exact Nat.le_refl _, by subst hx; exact .of q4 rfl (by simp)⟩
    rw [ibin_inc (by omega), obP_some]
    apply R90_2
    simp only [ibin_lss, obP_some, show decide (((0 + 1 + 1 : Nat) : Int) < 2) = false from rfl, asB_bool, bP_false]
    refine K _ h5 (.inr ⟨h.n, 0, l1.length + l2.length, [], [], .loose, ?_, ?_, ?_, rfl, ?_⟩) ((e34.trans e5).toExt (Nat.le_refl _))
    · simp [strRows_len]
    · simp [strRows_len]
    · rw [strRows_flat]
      have : (List.take ((0 + l1.length) * 1) (List.take (0 * 1) (lrep [.string ⟨#[]⟩] (l1.length + l2.length)) ++ l1.map Value.string ++ List.drop (0 * 1 + l1.length * 1) (lrep [.string ⟨#[]⟩] (l1.length + l2.length))) ++ l2.map Value.string ++ List.drop ((0 + l1.length) * 1 + l2.length * 1) (List.take (0 * 1) (lrep [.string ⟨#[]⟩] (l1.length + l2.length)) ++ l1.map Value.string ++ List.drop (0 * 1 + l1.length * 1) (lrep [.string ⟨#[]⟩] (l1.length + l2.length)))) = [] ++ (l1 ++ l2).map Value.string ++ [] := by
        simp only [Nat.zero_add, Nat.mul_one, Nat.zero_mul, List.take_zero, List.nil_append, List.append_nil, List.map_append]
        rw [List.take_append_of_le_length (by simp), List.take_of_length_le (by simp), List.drop_of_length_le (by simp [lrep_len]), List.append_nil]
      rw [this] at q5
      exact q5
    · intro r hr
      obtain ⟨s, _, rfl⟩ := List.mem_map.1 hr; rfl
end Go.Det
end
/- Which grammars may be: gram.May says yes. -/
set_option linter.unusedVariables false
set_option linter.unusedSimpArgs false
set_option maxRecDepth 100000
noncomputable section
namespace Go.Det
open Go.Proofs

def SymOk (g : Gm) (s : Sy) : Prop := (s.tok = true → ∃ t, g.toks[s.at_]? = some t ∧ t.skip = false) ∧ (s.tok = false → s.at_ < g.nts.length)
structure GmOk (g : Gm) : Prop where
  t : 1 ≤ g.toks.length ∧ g.toks.length ≤ 8
  n : 1 ≤ g.nts.length ∧ g.nts.length ≤ 8
  p : 1 ≤ g.prods.length ∧ g.prods.length ≤ 16
  names : (g.toks.map Tk.name ++ g.nts.map Ntm.name).Nodup
  nameB : ∀ s, s ∈ g.toks.map Tk.name ++ g.nts.map Ntm.name → nameB (txt' s) = true
  attrs : ∀ t, t ∈ g.nts → (t.inh ++ t.syn).length ≤ 4 ∧ (t.inh ++ t.syn).Nodup ∧ ∀ s, s ∈ t.inh ++ t.syn → Go.Det.nameB (txt' s) = true
  left : ∀ p, p ∈ g.prods → p.left < g.nts.length
  right : ∀ p, p ∈ g.prods → p.right.length ≤ 5
  sym : ∀ p, p ∈ g.prods → ∀ s, s ∈ p.right → SymOk g s
theorem bx_agg {h : DH} {t : TypeId} {cs : List Value} {F : Value → DH → Prop} (K : F (.pointer (some ⟨h.n, 0, none⟩)) (h.push (.cells cs t .exact))) : oh (bx t h (.agg ⟨cs⟩)) F := bx_ok rfl rfl K
theorem within_ok {h : DH} {v : Value} {e s m : Nat} {rows : List (List Value)} {Z : Value → DH → Prop} (a : RowsAt h v e s rows) (h1 : 1 ≤ rows.length) (h2 : rows.length ≤ m) (K : Z (.bool true) h) :
    CP Try.prog 87 [v, .int .i64 (m : Int)] h Z ∧ CP Try.prog 88 [v, .int .i64 (m : Int)] h Z ∧ CP Try.prog 89 [v, .int .i64 (m : Int)] h Z := by
  refine ⟨?_, ?_, ?_⟩
  · apply R87
    simp only [a.len, obP_some, ibin_geq, show decide ((1 : Int) ≤ (rows.length : Int)) = true from decide_eq_true (by omega), gotB_true, g1_true, sel_true, ibin_leq, show decide ((rows.length : Int) ≤ (m : Int)) = true from decide_eq_true (by omega), pk_bool]
    exact K
  · apply R88
    simp only [a.len, obP_some, ibin_geq, show decide ((1 : Int) ≤ (rows.length : Int)) = true from decide_eq_true (by omega), gotB_true, g1_true, sel_true, ibin_leq, show decide ((rows.length : Int) ≤ (m : Int)) = true from decide_eq_true (by omega), pk_bool]
    exact K
  · apply R89
    simp only [a.len, obP_some, ibin_geq, show decide ((1 : Int) ≤ (rows.length : Int)) = true from decide_eq_true (by omega), gotB_true, g1_true, sel_true, ibin_leq, show decide ((rows.length : Int) ≤ (m : Int)) = true from decide_eq_true (by omega), pk_bool]
    exact K
/-- A grammar as a parameter. -/
theorem GmAt.boxed {h : DH} {v : Value} {g : Gm} (a : GmAt h v g) {F : Value → DH → Prop} (K : ∀ h' tv nv pv, v = .agg ⟨[tv, nv, pv]⟩ → Has h' h.n (.cells [tv, nv, pv] 28 .exact) → GmAt h' (.agg ⟨[tv, nv, pv]⟩) g → Ext h h' → F (.pointer (some ⟨h.n, 0, none⟩)) h') : oh (bx 28 h v) F := by
  obtain ⟨tv, nv, pv, rfl, o1, o2, o3⟩ := gmBox a
  refine bx_ok rfl rfl ?_
  have e := Ext.push h (.cells [tv, nv, pv] 28 .exact)
  exact K _ tv nv pv rfl (Has.push_self _ _) (a.ext e) e
/-- The three parts. -/
theorem GmAt.parts {h : DH} {tv nv pv : Value} {g : Gm} (a : GmAt h (.agg ⟨[tv, nv, pv]⟩) g) : RowsAt h tv 99 3 (g.toks.map tokCells) ∧ (∃ nr, RowsAt h nv 101 3 nr ∧ Rows2 (NtRow h) nr g.nts) ∧ ∃ pr, RowsAt h pv 37 3 pr ∧ Rows2 (PdRow h) pr g.prods := by
  obtain ⟨tv', nv', pv', e, g1, g2, g3⟩ := a
  simp only [Value.agg.injEq, Array.mk.injEq, List.cons.injEq, and_true] at e
  obtain ⟨rfl, rfl, rfl⟩ := e
  exact ⟨g1, g2, g3⟩
theorem sym_ok {h : DH} {v : Value} {g : Gm} {s : Sy} {Z : Value → DH → Prop} (a : GmAt h v g) (hs : SymOk g s) (K : ∀ h', Ext h h' → Z (.bool true) h') : CP Try.prog 126 [v, .agg ⟨symCells s⟩] h Z := by
  apply R126
  refine a.boxed fun h1 tv nv pv _ q1 a1 e1 => ?_
  refine bx_agg ?_
  have e2 := Ext.push h1 (.cells (symCells s) 90 .exact)
  have q2 : Has (h1.push (.cells (symCells s) 90 .exact)) h1.n (.cells [.bool s.tok, .int .i64 (s.at_ : Int)] 90 .exact) := Has.push_self _ _
  have q12 := q1.ext e2
  have a2 := a1.ext e2
  show obP (fa 0 (.pointer (some ⟨h1.n, 0, none⟩))) _
  generalize h1.push (.cells (symCells s) 90 .exact) = h2 at e2 q2 q12 a2 ⊢
  have hK := K h2 (e1.trans e2)
  obtain ⟨p1, ⟨nr, p2, p2'⟩, _⟩ := a2.parts
  have hnl : nr.length = g.nts.length := p2'.len
  have hat := ld1_has q2 (o := 0 + 1) (v := .int .i64 (s.at_ : Int)) rfl
  have htk := ld1_has q2 (o := 0 + 0) (v := .bool s.tok) rfl
  have hnt := ld1_has q12 (o := 0 + 0) (v := tv) rfl
  have hnn := ld1_has q12 (o := 0 + 1) (v := nv) rfl
  rw [fa_ptr, obP_some, htk, obP_some, asB_bool, obP_some]
  cases ht : s.tok with
  | true =>
    obtain ⟨t, ht1, ht2⟩ := hs.1 ht
    have hlt : s.at_ < g.toks.length := (List.getElem?_eq_some_iff.1 ht1).1
    obtain ⟨b, q, c, md, k1, k2, k3, k4, k5, k6⟩ := p1.at_ (k := .i64) (j := s.at_) (r := tokCells t) (by simp [ht1])
    have hsk := ld1_has k3 ((k6 2 (by omega)).trans (show (tokCells t)[2]? = some (.bool t.skip) from rfl))
    rw [ht2] at hsk
    simp only [bP_true, fa_ptr, obP_some, hat, ibin_geq, show decide ((0 : Int) ≤ (s.at_ : Int)) = true from decide_eq_true (by omega), gotB_true, g1_true, hnt, p1.len, List.length_map, ibin_lss, show decide ((s.at_ : Int) < (g.toks.length : Int)) = true from decide_eq_true (by omega), pk_bool, sel_true, k1, hsk, bnot_bool, Bool.not_false]
    exact hK
  | false =>
    have hlt := hs.2 ht
    simp only [bP_false, fa_ptr, obP_some, hat, ibin_geq, show decide ((0 : Int) ≤ (s.at_ : Int)) = true from decide_eq_true (by omega), gotB_true, g1_true, hnn, p2.len, hnl, ibin_lss, show decide ((s.at_ : Int) < (g.nts.length : Int)) = true from decide_eq_true (by omega), pk_bool, sel_true]
    exact hK
theorem any_no {α : Type} (l : List α) : l.any (fun _ => false) = false := by rw [List.any_eq_false]; simp
theorem prod_ok {h : DH} {v : Value} {g : Gm} {p : Pd} {row : List Value} {Z : Value → DH → Prop} (a : GmAt h v g) (hr : PdRow h row p) (hl : p.left < g.nts.length) (hrl : p.right.length ≤ 5) (hs : ∀ s, s ∈ p.right → SymOk g s) (K : ∀ h', Ext h h' → Z (.bool true) h') : CP Try.prog 94 [v, .agg ⟨row⟩] h Z := by
  apply R94
  refine a.boxed fun h1 tv nv pv _ q1 a1 e1 => ?_
  obtain ⟨rv, uv, rfl, r1, r2⟩ := hr
  refine bx_agg ?_
  have e2 := Ext.push h1 (.cells [.int .i64 (p.left : Int), rv, uv] 37 .exact)
  have q2 : Has (h1.push (.cells [.int .i64 (p.left : Int), rv, uv] 37 .exact)) h1.n (.cells [.int .i64 (p.left : Int), rv, uv] 37 .exact) := Has.push_self _ _
  have q12 := q1.ext e2
  have a2 := a1.ext e2
  have r12 := (r1.ext e1).ext e2
  show obP (fa 0 (.pointer (some ⟨h1.n, 0, none⟩))) _
  generalize h1.push (.cells [.int .i64 (p.left : Int), rv, uv] 37 .exact) = h2 at e2 q2 q12 a2 r12 ⊢
  obtain ⟨p1, ⟨nr, p2, p2'⟩, _⟩ := a2.parts
  have hnl : nr.length = g.nts.length := p2'.len
  have hlt := ld1_has q2 (o := 0 + 0) (v := .int .i64 (p.left : Int)) rfl
  have hrt := ld1_has q2 (o := 0 + 1) (v := rv) rfl
  have hnn := ld1_has q12 (o := 0 + 1) (v := nv) rfl
  simp only [fa_ptr, obP_some, hlt, ibin_geq, show decide ((0 : Int) ≤ (p.left : Int)) = true from decide_eq_true (by omega), gotB_true, g1_true, hnn, p2.len, hnl, ibin_lss, show decide ((p.left : Int) < (g.nts.length : Int)) = true from decide_eq_true (by omega), pk_bool, sel_true, hrt, r12.len, List.length_map, ibin_leq, show decide ((p.right.length : Int) ≤ 5) = true from decide_eq_true (by omega), g4_true]
  refine any75 r12 (fun _ => false) (by simp; omega) (fun h' r e hr Z hz => ?_) fun h3 e3 => ?_
  · obtain ⟨s, hs', rfl⟩ := List.mem_map.1 hr
    show CP Try.prog 125 [.agg ⟨symCells s⟩, .pointer (some ⟨h.n, 0, none⟩)] h' Z
    apply R125
    refine bx_agg ?_
    have e4 := Ext.push h' (.cells (symCells s) 90 .exact)
    have q4 : Has (h'.push (.cells (symCells s) 90 .exact)) h'.n (.cells (symCells s) 90 .exact) := Has.push_self _ _
    have q14 := (q12.ext e).ext e4
    have a4 := (a2.ext e).ext e4
    show obP (ldN 3 (h'.push (.cells (symCells s) 90 .exact)) (.pointer (some ⟨h.n, 0, none⟩))) _
    generalize h'.push (.cells (symCells s) 90 .exact) = h4 at e4 q4 q14 a4 ⊢
    refine obP_of (ldN_has (l := [tv, nv, pv]) q14 rfl) ?_
    refine obP_of (ldN_has (l := symCells s) q4 rfl) ?_
    refine sym_ok a4 (hs s hs') fun h5 e5 => ?_
    rw [bnot_bool, obP_some]
    exact hz h5 (e4.trans e5)
  · rw [any_no, bnot_bool, obP_some]
    exact K h3 ((e1.trans e2).trans e3)
theorem PdRow.ext {h h' : DH} {row : List Value} {p : Pd} (a : PdRow h row p) (f : Ext h h') : PdRow h' row p := a.ks (n0 := 0) (o := []) (ts := []) (KS.ext f) (by simp) (by simp)
theorem NtRow.ext {h h' : DH} {row : List Value} {p : Ntm} (a : NtRow h row p) (f : Ext h h') : NtRow h' row p := a.ks (n0 := 0) (o := []) (ts := []) (KS.ext f) (by simp) (by simp)
theorem strRows_snoc (l : List ByteArray) (s : ByteArray) : strRows (l ++ [s]) = strRows l ++ [[.string s]] := by simp [strRows]
/-- gram.May. -/
theorem may_ok {h : DH} {v : Value} {g : Gm} {Z : Value → DH → Prop} (a : GmAt h v g) (ok : GmOk g) (K : ∀ h', Ext h h' → Z (.bool true) h') : CP Try.prog 49 [v] h Z := by
  apply R49
  refine a.boxed fun h1 tv nv pv _ q1 a1 e1 => ?_
  obtain ⟨p1, ⟨nr, p2, p2'⟩, pr, p3, p3'⟩ := a1.parts
  have hnl : nr.length = g.nts.length := p2'.len
  have hpl : pr.length = g.prods.length := p3'.len
  have htl : (g.toks.map tokCells).length = g.toks.length := by simp
  have c0 := ld1_has q1 (o := 0 + 0) (v := tv) rfl
  have c1 := ld1_has q1 (o := 0 + 1) (v := nv) rfl
  have c2 := ld1_has q1 (o := 0 + 2) (v := pv) rfl
  rw [fa_ptr, obP_some, c0, obP_some]
  refine (within_ok (m := 8) p1 (by rw [htl]; exact ok.t.1) (by rw [htl]; exact ok.t.2) ?_).1
  simp only [bnot_bool, obP_some, Bool.not_true, gotB_false, Bool.not_false, g1_true, fa_ptr, c1, g4_true]
  refine (within_ok (m := 8) p2 (by rw [hnl]; exact ok.n.1) (by rw [hnl]; exact ok.n.2) ?_).2.1
  simp only [bnot_bool, obP_some, Bool.not_true, gotB_false, Bool.not_false, g1_true, fa_ptr, c2, g4_true, pk_bool, sel_false]
  refine (within_ok (m := 16) p3 (by rw [hpl]; exact ok.p.1) (by rw [hpl]; exact ok.p.2) ?_).2.2
  simp only [bnot_bool, obP_some, Bool.not_true, g1_true, pk_bool, sel_false, asB_bool, bP_false, fa_ptr, c0, p1.len, htl]
  have hntl := ok.t.2
  have hnnl := ok.n.2
  -- what stands behind both loops
  have fin : ∀ h' all, KS h1.n [] [99, 9, 101, 56] h1 h' → RowsAt h' all 9 1 (strRows (g.toks.map Tk.name ++ g.nts.map Ntm.name)) → A49_2 (.pointer (some ⟨h.n, 0, none⟩)) all nv (.int .i64 (g.nts.length : Int)) (.int .i64 (g.nts.length : Int)) h' Z := by
    intro h' all f hr
    apply R49_2
    simp only [ibin_lss, obP_some, show decide ((g.nts.length : Int) < (g.nts.length : Int)) = false from decide_eq_false (by omega), asB_bool, bP_false]
    refine names_ok hr ok.names ok.nameB (by simp; omega) fun h2 e2 => ?_
    have ff : KS h1.n [] [99, 9, 101, 56] h1 h2 := f.trans (KS.ext e2)
    have q12 := q1.out ff (by simp)
    have a12 := a1.out ff (by simp)
    simp only [gotB_true, obP_some, g1_true, fa_ptr, ld1_has q12 (o := 0 + 2) (v := pv) rfl, g4_true, sel_true]
    obtain ⟨_, _, pr2, y3, y3'⟩ := a12.parts
    have hypl : pr2.length = g.prods.length := y3'.len
    refine any92 y3 (fun _ => false) (by have := ok.p.2; omega) (fun hx r e hr Z hz => ?_) fun h3 e3 => ?_
    · show CP Try.prog 93 [.agg ⟨r⟩, .pointer (some ⟨h.n, 0, none⟩)] hx Z
      obtain ⟨j, hj⟩ := List.getElem?_of_mem hr
      have hjl : j < g.prods.length := by have := (List.getElem?_eq_some_iff.1 hj).1; omega
      obtain ⟨r', hj', hpd⟩ := y3'.get (List.getElem?_eq_getElem hjl)
      rw [hj] at hj'
      simp only [Option.some.injEq] at hj'
      subst hj'
      have hm := List.getElem_mem hjl
      have hpd1 := hpd.ext e
      have hpd2 := hpd1
      obtain ⟨rv, uv, rfl, r1, r2⟩ := hpd1
      apply R93
      refine bx_agg ?_
      have e4 := Ext.push hx (.cells [.int .i64 (g.prods[j].left : Int), rv, uv] 37 .exact)
      have q4 : Has (hx.push (.cells [.int .i64 (g.prods[j].left : Int), rv, uv] 37 .exact)) hx.n (.cells [.int .i64 (g.prods[j].left : Int), rv, uv] 37 .exact) := Has.push_self _ _
      have q14 := (q12.ext e).ext e4
      have a4 := (a12.ext e).ext e4
      have pd4 := hpd2.ext e4
      show obP (ldN 3 (hx.push (.cells [.int .i64 (g.prods[j].left : Int), rv, uv] 37 .exact)) (.pointer (some ⟨h.n, 0, none⟩))) _
      generalize hx.push (.cells [.int .i64 (g.prods[j].left : Int), rv, uv] 37 .exact) = h4 at e4 q4 q14 a4 pd4 ⊢
      refine obP_of (ldN_has (l := [tv, nv, pv]) q14 rfl) ?_
      refine obP_of (ldN_has (l := [.int .i64 (g.prods[j].left : Int), rv, uv]) q4 rfl) ?_
      refine prod_ok a4 pd4 (ok.left _ hm) (ok.right _ hm) (ok.sym _ hm) fun h5 e5 => ?_
      rw [bnot_bool, obP_some]
      exact hz h5 (e4.trans e5)
    · rw [any_no, bnot_bool, obP_some, pk_bool, obP_some]
      exact K h3 (e1.trans ((ff.trans (KS.ext e3)).toExt (Nat.le_refl _)))
  -- the nonterminals
  have loop2 : ∀ (m k : Nat) h' all, g.nts.length - k ≤ m → k ≤ g.nts.length → KS h1.n [] [99, 9, 101, 56] h1 h' → Grow h' all 9 1 (strRows (g.toks.map Tk.name ++ (g.nts.take k).map Ntm.name)) h1.n → A49_2 (.pointer (some ⟨h.n, 0, none⟩)) all nv (.int .i64 (g.nts.length : Int)) (.int .i64 (k : Int)) h' Z := by
    intro m
    induction m with
    | zero =>
      intro k h' all hm hk f hg
      have : k = g.nts.length := by omega
      subst this
      rw [List.take_length] at hg
      exact fin h' all f hg.rows
    | succ m ih =>
      intro k h' all hm hk f hg
      by_cases hlt : k < g.nts.length
      · apply R49_2
        have a' := a1.out f (by simp)
        obtain ⟨_, ⟨nr', y2, y2'⟩, _⟩ := a'.parts
        obtain ⟨row, hj, iv, sv, rfl, hi, hs⟩ := y2'.get (List.getElem?_eq_getElem hlt)
        obtain ⟨b, q, c, md, k1, k2, k3, k4, k5, k6⟩ := y2.at_ (k := .i64) hj
        have si := isSl_facts hi.isSl
        have ss := isSl_facts hs.isSl
        simp only [ibin_lss, obP_some, show decide ((k : Int) < (g.nts.length : Int)) = true from decide_eq_true (by omega), asB_bool, bP_true, k1]
        refine obP_of (ldN_has k3 k4) ?_
        rw [al_ok, oh_some]
        have e2 := Ext.push h' (.cells [(Value.string ⟨#[]⟩), (Value.slice none 0 0), (Value.slice none 0 0)] 101 .exact)
        have q2 : Has (h'.push (.cells [(Value.string ⟨#[]⟩), (Value.slice none 0 0), (Value.slice none 0 0)] 101 .exact)) h'.n (.cells [(Value.string ⟨#[]⟩), (Value.slice none 0 0), (Value.slice none 0 0)] 101 .exact) := Has.push_self _ _
        have hg2 := hg.ext e2
        generalize h'.push (.cells [(Value.string ⟨#[]⟩), (Value.slice none 0 0), (Value.slice none 0 0)] 101 .exact) = h2 at e2 q2 hg2 ⊢
        refine st_ok (c' := [.string g.nts[k].name, iv, sv]) q2 rfl rfl rfl rfl (by simp) (by show sel true (sel (okCell iv) (sel (okCell sv) true false) false) false = true; rw [si.1, ss.1]; rfl) rfl ?_
        have f3 : KS h1.n [] [101] h2 (h2.upd h'.n (.cells [.string g.nts[k].name, iv, sv] 101 .exact)) := KS.upd _ q2 f.n (by simp)
        have q3 : Has (h2.upd h'.n (.cells [.string g.nts[k].name, iv, sv] 101 .exact)) h'.n (.cells [.string g.nts[k].name, iv, sv] 101 .exact) := q2.upd_self _
        generalize h2.upd h'.n (.cells [.string g.nts[k].name, iv, sv] 101 .exact) = h3 at f3 q3 ⊢
        have hg3 := hg2.ks f3 (by decide) (by decide)
        have ff3 : KS h1.n [] [99, 9, 101, 56] h1 h3 := (f.trans (KS.ext e2)).trans (f3.mono (by simp) (by simp))
        rw [fa_ptr, obP_some]
        refine obP_of (ld1_has q3 (o := 0 + 0) rfl) ?_
        refine app1 hg3 ff3.n rfl rfl rfl rfl rfl rfl (by decide) (room_ok (by simp [strRows]; omega) (by simp [strRows]; omega) (by omega)) fun all' h4 hg4 f4 => ?_
        have fk : KS h1.n [] [9] h3 h4 := KS.grow hg3 f4 (by simp)
        have ff4 : KS h1.n [] [99, 9, 101, 56] h1 h4 := ff3.trans (fk.mono (by simp) (by simp))
        have q4 := q3.ks fk (by decide) (by decide)
        rw [fa_ptr, obP_some]
        refine obP_of (ld1_has q4 (o := 0 + 1) rfl) ?_
        rw [fa_ptr, obP_some]
        refine obP_of (ld1_has q4 (o := 0 + 2) rfl) ?_
        refine bldSl_ok (cs := [iv, sv]) (by show sel (sel (isTopv iv) false true) (sel (sel (isTopv sv) false true) true false) false = true; rw [si.2.2.1, ss.2.2.1]; rfl) (by decide) ?_ ?_
        · show guard' (sel (isTup iv) false (sel (Nat.beq (llen (cellsOfV iv)) 1) true false)) (guard' (sel (isTup sv) false (sel (Nat.beq (llen (cellsOfV sv)) 1) _ false)) _) = _
          rw [si.2.1, ss.2.1, si.2.2.2, ss.2.2.2]; rfl
        have e5 := Ext.push h4 (.cells [iv, sv] 56 .exact)
        have q5 : Has (h4.push (.cells [iv, sv] 56 .exact)) h4.n (.cells [iv, sv] 56 .exact) := Has.push_self _ _
        have hg5 := hg4.ext e5
        generalize h4.push (.cells [iv, sv] 56 .exact) = h5 at e5 q5 hg5 ⊢
        have ff5 := ff4.trans (KS.ext e5)
        -- the attributes' names lie in old blocks
        have a5 := a1.out ff5 (by simp)
        obtain ⟨_, ⟨nr5, z2, z2'⟩, _⟩ := a5.parts
        have hold : RowsAt h5 iv 9 1 (strRows g.nts[k].inh) ∧ RowsAt h5 sv 9 1 (strRows g.nts[k].syn) := by
          obtain ⟨row5, hj5, iv5, sv5, rfl, hi5, hs5⟩ := z2'.get (List.getElem?_eq_getElem hlt)
          obtain ⟨b', q', c', md', k1', k2', k3', k4', k5', k6'⟩ := z2.at_ (k := .i64) hj5
          -- the same cells
          have o1 := p2'.get (List.getElem?_eq_getElem hlt)
          obtain ⟨r1, ho1, iv1, sv1, rfl, hi1, hs1⟩ := o1
          obtain ⟨b'', q'', c'', md'', m1, m2, m3, m4, m5, m6⟩ := p2.at_ (k := .i64) ho1
          rw [m1] at k1 k1'
          simp only [Option.some.injEq, Value.pointer.injEq, Addr.mk.injEq, and_true] at k1 k1'
          obtain ⟨rfl, rfl⟩ := k1
          have t1 := (m3.out f (by simp)).inj k3
          simp only [DBlk.cells.injEq] at t1
          obtain ⟨rfl, _, _⟩ := t1
          rw [m4] at k4
          simp only [Option.some.injEq, List.cons.injEq, and_true, true_and] at k4
          obtain ⟨rfl, rfl⟩ := k4
          exact ⟨hi1.out ff5 (by simp), hs1.out ff5 (by simp)⟩
        have at5 := ok.attrs _ (List.getElem_mem hlt)
        have hll := at5.1
        rw [List.length_append] at hll
        refine concat_ok (.inr ⟨h4.n, 0, 2, [], [], .exact, rfl, Nat.le_refl _, q5, rfl, by intro r hr; simp at hr; rcases hr with rfl | rfl <;> rfl⟩) hold.1 hold.2 (by omega) fun cv h6 hc6 e6 => ?_
        have hcl : (strRows (g.nts[k].inh ++ g.nts[k].syn)).length = g.nts[k].inh.length + g.nts[k].syn.length := by simp [strRows]
        simp only [hc6.len, hcl, obP_some, ibin_gtr, show decide ((4 : Int) < ((g.nts[k].inh.length + g.nts[k].syn.length : Nat) : Int)) = false from decide_eq_false (by omega), gotB_false, Bool.not_false, g4_true, sel_true]
        refine names_ok hc6 at5.2.1 at5.2.2 (by simp; omega) fun h7 e7 => ?_
        simp only [bnot_bool, Bool.not_true, g1_true, obP_some, pk_bool, sel_false, asB_bool, bP_false]
        rw [ibin_inc (by omega), obP_some]
        refine ih (k + 1) h7 all' (by omega) hlt ((ff5.trans (KS.ext e6)).trans (KS.ext e7)) ?_
        have : strRows (g.toks.map Tk.name ++ (g.nts.take (k + 1)).map Ntm.name) = strRows (g.toks.map Tk.name ++ (g.nts.take k).map Ntm.name) ++ [[.string g.nts[k].name]] := by
          rw [← strRows_snoc, List.take_succ_eq_append_getElem hlt, List.map_append, ← List.append_assoc]; rfl
        rw [this]; exact (hg5.ext e6).ext e7
      · have : k = g.nts.length := by omega
        subst this
        rw [List.take_length] at hg
        exact fin h' all f hg.rows
  -- the tokens
  have loop1 : ∀ (m k : Nat) h' all, g.toks.length - k ≤ m → k ≤ g.toks.length → KS h1.n [] [99, 9, 101, 56] h1 h' → Grow h' all 9 1 (strRows ((g.toks.take k).map Tk.name)) h1.n → A49_1 (.pointer (some ⟨h.n, 0, none⟩)) all tv (.int .i64 (g.toks.length : Int)) (.int .i64 (k : Int)) h' Z := by
    intro m
    have done : ∀ h' all, KS h1.n [] [99, 9, 101, 56] h1 h' → Grow h' all 9 1 (strRows (g.toks.map Tk.name)) h1.n → A49_1 (.pointer (some ⟨h.n, 0, none⟩)) all tv (.int .i64 (g.toks.length : Int)) (.int .i64 (g.toks.length : Int)) h' Z := by
      intro h' all f hg
      apply R49_1
      simp only [ibin_lss, obP_some, show decide ((g.toks.length : Int) < (g.toks.length : Int)) = false from decide_eq_false (by omega), asB_bool, bP_false]
      rw [fa_ptr, obP_some, ld1_has (q1.out f (by simp)) (o := 0 + 1) (v := nv) rfl, obP_some, p2.len, obP_some, hnl]
      refine loop2 _ 0 h' all (Nat.le_refl _) (Nat.zero_le _) f ?_
      simpa using hg
    induction m with
    | zero =>
      intro k h' all hm hk f hg
      have : k = g.toks.length := by omega
      subst this
      rw [List.take_length] at hg
      exact done h' all f hg
    | succ m ih =>
      intro k h' all hm hk f hg
      by_cases hlt : k < g.toks.length
      · apply R49_1
        have hj : (g.toks.map tokCells)[k]? = some (tokCells g.toks[k]) := by simp [hlt]
        obtain ⟨b, q, c, md, k1, k2, k3, k4, k5, k6⟩ := (p1.out f (by simp)).at_ (k := .i64) hj
        simp only [ibin_lss, obP_some, show decide ((k : Int) < (g.toks.length : Int)) = true from decide_eq_true (by omega), asB_bool, bP_true, k1]
        refine obP_of (ldN_has k3 k4) ?_
        rw [al_ok, oh_some]
        have e2 := Ext.push h' (.cells [(Value.string ⟨#[]⟩), (Value.string ⟨#[]⟩), (Value.bool false)] 99 .exact)
        have q2 : Has (h'.push (.cells [(Value.string ⟨#[]⟩), (Value.string ⟨#[]⟩), (Value.bool false)] 99 .exact)) h'.n (.cells [(Value.string ⟨#[]⟩), (Value.string ⟨#[]⟩), (Value.bool false)] 99 .exact) := Has.push_self _ _
        have hg2 := hg.ext e2
        generalize h'.push (.cells [(Value.string ⟨#[]⟩), (Value.string ⟨#[]⟩), (Value.bool false)] 99 .exact) = h2 at e2 q2 hg2 ⊢
        refine st_ok (c' := tokCells g.toks[k]) q2 rfl rfl rfl rfl (by simp) rfl rfl ?_
        have f3 : KS h1.n [] [99] h2 (h2.upd h'.n (.cells (tokCells g.toks[k]) 99 .exact)) := KS.upd _ q2 f.n (by simp)
        have q3 : Has (h2.upd h'.n (.cells (tokCells g.toks[k]) 99 .exact)) h'.n (.cells (tokCells g.toks[k]) 99 .exact) := q2.upd_self _
        generalize h2.upd h'.n (.cells (tokCells g.toks[k]) 99 .exact) = h3 at f3 q3 ⊢
        have hg3 := hg2.ks f3 (by decide) (by decide)
        have ff3 : KS h1.n [] [99, 9, 101, 56] h1 h3 := (f.trans (KS.ext e2)).trans (f3.mono (by simp) (by simp))
        rw [fa_ptr, obP_some]
        refine obP_of (ld1_has q3 (o := 0 + 0) (v := .string g.toks[k].name) rfl) ?_
        refine app1 hg3 ff3.n rfl rfl rfl rfl rfl rfl (by decide) (room_ok (by simp [strRows]; omega) (by simp [strRows]; omega) (by omega)) fun all' h4 hg4 f4 => ?_
        have fk : KS h1.n [] [9] h3 h4 := KS.grow hg3 f4 (by simp)
        rw [ibin_inc (by omega), obP_some]
        refine ih (k + 1) h4 all' (by omega) hlt (ff3.trans (fk.mono (by simp) (by simp))) ?_
        have : strRows ((g.toks.take (k + 1)).map Tk.name) = strRows ((g.toks.take k).map Tk.name) ++ [[.string g.toks[k].name]] := by
          rw [← strRows_snoc, List.take_succ_eq_append_getElem hlt, List.map_append]; rfl
        rw [this]; exact hg4
      · have : k = g.toks.length := by omega
        subst this
        rw [List.take_length] at hg
        exact done h' all f hg
  exact loop1 _ 0 h1 _ (Nat.le_refl _) (Nat.zero_le _) (KS.refl _ _ _ _) (Grow.nil _ _ _ _)
end Go.Det
end
/- first.*: bits in a slice, the union of two. -/
set_option linter.unusedVariables false
set_option linter.unusedSimpArgs false
set_option maxRecDepth 100000
noncomputable section
namespace Go.Det
open Go.Proofs

abbrev slb (b n : Nat) : Value := .slice (some ⟨b, 0, none⟩) n n
def bitsL (n : Nat) (p : Nat → Bool) : List Value := (List.range n).map fun i => .bool (p i)
def Vec (h : DH) (b n : Nat) (p : Nat → Bool) : Prop := Has h b (.cells (bitsL n p) 4 .exact)
theorem bitsL_len (n : Nat) (p : Nat → Bool) : (bitsL n p).length = n := by simp [bitsL]
theorem bitsL_get {n i : Nat} {p : Nat → Bool} (hi : i < n) : (bitsL n p)[i]? = some (.bool (p i)) := by simp [bitsL, hi]
theorem bitsL_congr {n : Nat} {p q : Nat → Bool} (h : ∀ j, j < n → p j = q j) : bitsL n p = bitsL n q := by
  unfold bitsL
  refine List.map_congr_left fun j hj => ?_
  rw [h j (List.mem_range.1 hj)]
theorem bitsL_inj {n m : Nat} {p q : Nat → Bool} (h : bitsL n p = bitsL m q) : n = m ∧ ∀ j, j < n → p j = q j := by
  have h1 : n = m := by have := congrArg List.length h; simpa [bitsL_len] using this
  subst h1
  refine ⟨rfl, fun j hj => ?_⟩
  have := congrArg (fun l : List Value => l[j]?) h
  simp only [bitsL_get hj, Option.some.injEq, Value.bool.injEq] at this
  exact this
theorem bitsL_set {n i : Nat} {p : Nat → Bool} (hi : i < n) : bitsL n (fun j => j == i || p j) = (bitsL n p).take i ++ [.bool true] ++ (bitsL n p).drop (i + 1) := by
  have : (bitsL n p).take i ++ [.bool true] ++ (bitsL n p).drop (i + 1) = (bitsL n p).set i (.bool true) := by
    rw [List.set_eq_take_append_cons_drop, if_pos (by rw [bitsL_len]; exact hi)]; simp
  rw [this]
  refine List.ext_getElem? fun j => ?_
  rw [List.getElem?_set]
  by_cases hj : j < n
  · rw [bitsL_get hj]
    by_cases he : i = j
    · subst he; simp [bitsL_len, hj]
    · rw [if_neg he, bitsL_get hj]
      simp [show (j == i) = false from by simp; omega]
  · rw [List.getElem?_eq_none (by rw [bitsL_len]; omega)]
    rw [if_neg (by omega), List.getElem?_eq_none (by rw [bitsL_len]; omega)]
theorem lrep_one (v : Value) (n : Nat) : lrep [v] n = List.replicate n v := by
  induction n with
  | zero => rfl
  | succ n ih => rw [lrep_succ, ih]; rfl
theorem bitsL_lrep (n : Nat) : bitsL n (fun _ => false) = lrep [.bool false] n := by
  rw [lrep_one]
  refine List.eq_replicate_iff.2 ⟨bitsL_len _ _, fun v hv => ?_⟩
  obtain ⟨i, _, rfl⟩ := List.mem_map.1 hv; rfl
theorem Vec.congr {h : DH} {b n : Nat} {p q : Nat → Bool} (a : Vec h b n p) (e : ∀ j, j < n → p j = q j) : Vec h b n q := by
  unfold Vec at a ⊢; rw [← bitsL_congr e]; exact a
theorem Vec.kp {h h' : DH} {S : Nat → Prop} {b n : Nat} {p : Nat → Bool} (a : Vec h b n p) (f : Kp h h' S) (hs : ¬ S b) : Vec h' b n p := Has.kp a f hs
theorem Vec.ext {h h' : DH} {b n : Nat} {p : Nat → Bool} (a : Vec h b n p) (f : Ext h h') : Vec h' b n p := Has.ext a f
theorem iaS_slb {b n i : Nat} {k : IntKind} (hi : i < n) : iaS 1 (slb b n) (.int k (i : Int)) = some (.pointer (some ⟨b, i, none⟩)) := by
  show guard' (Nat.blt i n) (some (Value.pointer (some ⟨b, Nat.add 0 (Nat.mul i 1), none⟩))) = _
  rw [show Nat.blt i n = true from Nat.ble_eq_true_of_le hi]
  show some (Value.pointer (some ⟨b, 0 + i * 1, none⟩)) = _
  rw [Nat.zero_add, Nat.mul_one]
theorem Vec.ld {h : DH} {b n i : Nat} {p : Nat → Bool} (a : Vec h b n p) (hi : i < n) : ld1 h (.pointer (some ⟨b, i, none⟩)) = some (.bool (p i)) := ld1_has a (bitsL_get hi)
theorem Vec.st {h : DH} {b n i : Nat} {p : Nat → Bool} {F : DH → Prop} (a : Vec h b n p) (hi : i < n) (K : ∀ h', Vec h' b n (fun j => j == i || p j) → Kp h h' (· = b) → F h') : obP (Go.Det.st 1 h (.pointer (some ⟨b, i, none⟩)) (.bool true)) F := by
  refine st_ok (c' := bitsL n (fun j => j == i || p j)) a rfl rfl rfl rfl (by rw [bitsL_len]; omega) rfl (bitsL_set hi) ?_
  exact K _ (Has.upd_self a _) (Kp.upd _ (.inl rfl))
theorem set_ok {h : DH} {b n i : Nat} {p : Nat → Bool} {Z : Value → DH → Prop} (a : Vec h b n p) (hi : i < n) (K : ∀ h', Vec h' b n (fun j => j == i || p j) → Kp h h' (· = b) → Z (.bool (!p i)) h') : CP Try.prog 77 [slb b n, .int .i64 (i : Int)] h Z := by
  apply R77
  rw [iaS_slb hi, obP_some, a.ld hi, obP_some, obP_some]
  refine a.st hi fun h' a' f => ?_
  rw [bnot_bool, obP_some]
  exact K h' a' f
theorem union_ok {h : DH} {b c n m : Nat} {p q : Nat → Bool} {Z : Value → DH → Prop} (a : Vec h b n p) (a' : Vec h c m q) (hm : m ≤ n) (hn : n < 1000000)
    (K : ∀ h' g, Vec h' b n (fun j => p j || (decide (j < m) && q j)) → Kp h h' (· = b) → (g = false → ∀ j, j < m → q j = true → p j = true) → (g = true → ∃ j, j < m ∧ q j = true ∧ p j = false) → Z (.bool g) h') : CP Try.prog 81 [slb b n, slb c m] h Z := by
  apply R81
  rw [lenS_sl, obP_some]
  have hc : c ≠ b ∨ (c = b ∧ m = n ∧ ∀ j, j < n → q j = p j) := by
    by_cases hcb : c = b
    · subst hcb
      have := Has.inj a a'
      simp only [DBlk.cells.injEq, and_true] at this
      obtain ⟨h1, h2⟩ := bitsL_inj this
      exact .inr ⟨rfl, h1.symm, fun j hj => (h2 j hj).symm⟩
    · exact .inl hcb
  have rd : ∀ h' i, i < m → Vec h' b n (fun j => p j || (decide (j < i) && q j)) → Kp h h' (· = b) → ld1 h' (.pointer (some ⟨c, i, none⟩)) = some (.bool (q i)) := by
    intro h' i hi hv f
    rcases hc with hc | ⟨rfl, rfl, hq⟩
    · exact (a'.kp f hc).ld hi
    · rw [hv.ld hi, hq i hi]; simp
  suffices loop : ∀ (k i : Nat) h' g, m - i ≤ k → i ≤ m → Vec h' b n (fun j => p j || (decide (j < i) && q j)) → Kp h h' (· = b) → (g = false → ∀ j, j < i → q j = true → p j = true) → (g = true → ∃ j, j < i ∧ q j = true ∧ p j = false) → A81_1 (slb b n) (.bool g) (slb c m) (.int .i64 (m : Int)) (.int .i64 (i : Int)) h' Z by
    refine loop _ 0 h false (Nat.le_refl _) (Nat.zero_le _) (a.congr fun j _ => by simp) (Kp.refl _ _) (fun _ j hj => by omega) (fun hh => by cases hh)
  intro k
  induction k with
  | zero =>
    intro i h' g hk hi hv f g0 g1
    have : i = m := by omega
    subst this
    apply R81_1
    simp only [ibin_lss, obP_some, show decide ((i : Int) < (i : Int)) = false from decide_eq_false (by omega), asB_bool, bP_false]
    exact K h' g hv f g0 g1
  | succ k ih =>
    intro i h' g hk hi hv f g0 g1
    by_cases hlt : i < m
    · apply R81_1
      simp only [ibin_lss, obP_some, show decide ((i : Int) < (m : Int)) = true from decide_eq_true (by omega), asB_bool, bP_true, iaS_slb hlt]
      rw [rd h' i hlt hv f, obP_some, gotB_true, obP_some]
      cases hq : q i with
      | false =>
        simp only [g4_false, pk_bool, sel_false, obP_some, asB_bool, bP_false]
        rw [ibin_inc (by omega), obP_some]
        refine ih (i + 1) h' g (by omega) hlt (hv.congr fun j hj => ?_) f (fun hg j hj hqj => ?_) (fun hg => ?_)
        · rcases Nat.lt_trichotomy j i with h1 | h1 | h1
          · simp [h1, show j < i + 1 from by omega]
          · subst h1; simp [hq]
          · simp [show ¬ j < i from by omega, show ¬ j < i + 1 from by omega]
        · rcases Nat.lt_or_eq_of_le (Nat.lt_succ_iff.1 hj) with h1 | h1
          · exact g0 hg j h1 hqj
          · subst h1; rw [hq] at hqj; cases hqj
        · obtain ⟨j, h1, h2⟩ := g1 hg
          exact ⟨j, by omega, h2⟩
      | true =>
        simp only [g4_true, sel_true]
        refine set_ok hv (by omega) fun h2 hv2 f2 => ?_
        have hv3 : Vec h2 b n (fun j => p j || (decide (j < i + 1) && q j)) := hv2.congr fun j hj => by
          rcases Nat.lt_trichotomy j i with h1 | h1 | h1
          · simp [h1, show j < i + 1 from by omega, show ¬ j = i from by omega]
          · subst h1; simp [hq]
          · simp [show ¬ j < i from by omega, show ¬ j < i + 1 from by omega, show ¬ j = i from by omega]
        simp only [pk_bool, sel_true, obP_some, asB_bool]
        have hpi : (p i || (decide (i < i) && q i)) = p i := by simp
        rw [hpi]
        cases hp : p i with
        | false =>
          simp only [Bool.not_false, bP_true]
          rw [ibin_inc (by omega), obP_some]
          exact ih (i + 1) h2 true (by omega) hlt hv3 (f.trans f2) (fun hg => by cases hg) (fun _ => ⟨i, by omega, hq, hp⟩)
        | true =>
          simp only [Bool.not_true, bP_false]
          rw [ibin_inc (by omega), obP_some]
          refine ih (i + 1) h2 g (by omega) hlt hv3 (f.trans f2) (fun hg j hj hqj => ?_) (fun hg => ?_)
          · rcases Nat.lt_or_eq_of_le (Nat.lt_succ_iff.1 hj) with h1 | h1
            · exact g0 hg j h1 hqj
            · subst h1; exact hp
          · obtain ⟨j, h1, h2⟩ := g1 hg
            exact ⟨j, by omega, h2⟩
    · have : i = m := by omega
      subst this
      apply R81_1
      simp only [ibin_lss, obP_some, show decide ((i : Int) < (i : Int)) = false from decide_eq_false (by omega), asB_bool, bP_false]
      exact K h' g hv f g0 g1
/-- A step that is made again till nothing comes. -/
theorem grows_ok {f : Value} {I : Nat → DH → Prop} {D : DH → Prop} {Z : Value → DH → Prop} (K : ∀ h, D h → Z (.tuple ⟨[]⟩) h)
    (hf : ∀ n h, I n h → ∀ Y : Value → DH → Prop, (∀ h', D h' → Y (.bool false) h') → (∀ m h', m < n → I m h' → Y (.bool true) h') → obP (asFunc f) fun g => CP Try.prog g.1 (lapp g.2.1 (lapp [] g.2.2)) h Y) :
    ∀ n h, I n h → CP Try.prog 73 [f] h Z := by
  suffices loop : ∀ N n h, n ≤ N → I n h → A73_1 f h Z from fun n h hi => by
    apply R73
    exact loop n n h (Nat.le_refl _) hi
  intro N
  induction N with
  | zero =>
    intro n h hn hi
    apply R73_1
    have := hf n h hi (fun v h' => obP (asB v) fun b3 => bP b3 (A73_1 f h' Z) (Z (.tuple ⟨[]⟩) h')) (fun h' hd => ?_) (fun m h' hm => by omega)
    · exact this
    · simp only [asB_bool, obP_some, bP_false]; exact K h' hd
  | succ N ih =>
    intro n h hn hi
    apply R73_1
    have := hf n h hi (fun v h' => obP (asB v) fun b3 => bP b3 (A73_1 f h' Z) (Z (.tuple ⟨[]⟩) h')) (fun h' hd => ?_) (fun m h' hm hi' => ?_)
    · exact this
    · simp only [asB_bool, obP_some, bP_false]; exact K h' hd
    · simp only [asB_bool, obP_some, bP_true]; exact ih m h' (by omega) hi'
end Go.Det
end
/- What may begin, follow, be nothing: the plain law. -/
set_option linter.unusedVariables false
set_option linter.unusedSimpArgs false
set_option maxRecDepth 100000
noncomputable section
namespace Go.Det
open Go.Proofs

def rowN (n : Nat → Bool) (r : List Sy) : Bool := r.all fun s => !s.tok && n s.at_
def rowF (n : Nat → Bool) (f : Nat → Nat → Bool) : List Sy → Nat → Bool
  | [], _ => false
  | s :: r, t => if s.tok then s.at_ == t else f s.at_ t || (n s.at_ && rowF n f r t)
theorem rowF_cons (n : Nat → Bool) (f : Nat → Nat → Bool) (s : Sy) (r : List Sy) (t : Nat) : rowF n f (s :: r) t = if s.tok then s.at_ == t else f s.at_ t || (n s.at_ && rowF n f r t) := rfl
inductive NullP (g : Gm) : Nat → Prop
  | mk (p : Pd) (hp : p ∈ g.prods) (h1 : ∀ s, s ∈ p.right → s.tok = false) (h2 : ∀ s, s ∈ p.right → NullP g s.at_) : NullP g p.left
def nullF (g : Gm) (x : Nat) : Bool := @decide (NullP g x) (Classical.propDecidable _)
inductive FirstP (g : Gm) : Nat → Nat → Prop
  | tok (p : Pd) (hp : p ∈ g.prods) (pre post : List Sy) (t : Nat) (e : p.right = pre ++ ⟨true, t⟩ :: post) (hn : rowN (nullF g) pre = true) : FirstP g p.left t
  | nt (p : Pd) (hp : p ∈ g.prods) (pre post : List Sy) (y t : Nat) (e : p.right = pre ++ ⟨false, y⟩ :: post) (hn : rowN (nullF g) pre = true) (h : FirstP g y t) : FirstP g p.left t
def firstF (g : Gm) (x t : Nat) : Bool := @decide (FirstP g x t) (Classical.propDecidable _)
inductive FollowP (g : Gm) : Nat → Nat → Prop
  | eof : FollowP g 0 g.toks.length
  | next (p : Pd) (hp : p ∈ g.prods) (pre post : List Sy) (y t : Nat) (e : p.right = pre ++ ⟨false, y⟩ :: post) (h : t < g.toks.length) (h : rowF (nullF g) (firstF g) post t = true) : FollowP g y t
  | last (p : Pd) (hp : p ∈ g.prods) (pre post : List Sy) (y t : Nat) (e : p.right = pre ++ ⟨false, y⟩ :: post) (hn : rowN (nullF g) post = true) (h : FollowP g p.left t) : FollowP g y t
def followF (g : Gm) (x t : Nat) : Bool := @decide (FollowP g x t) (Classical.propDecidable _)
theorem nullF_iff {g : Gm} {x : Nat} : nullF g x = true ↔ NullP g x := @decide_eq_true_iff _ (Classical.propDecidable _)
theorem firstF_iff {g : Gm} {x t : Nat} : firstF g x t = true ↔ FirstP g x t := @decide_eq_true_iff _ (Classical.propDecidable _)
theorem followF_iff {g : Gm} {x t : Nat} : followF g x t = true ↔ FollowP g x t := @decide_eq_true_iff _ (Classical.propDecidable _)

theorem rowN_iff {n : Nat → Bool} {r : List Sy} : rowN n r = true ↔ ∀ s, s ∈ r → s.tok = false ∧ n s.at_ = true := by
  unfold rowN; rw [List.all_eq_true]; simp
theorem rowN_append {n : Nat → Bool} {a b : List Sy} : rowN n (a ++ b) = (rowN n a && rowN n b) := by unfold rowN; rw [List.all_append]
theorem rowN_congr {n n' : Nat → Bool} {r : List Sy} (h : ∀ s, s ∈ r → s.tok = false → n s.at_ = n' s.at_) : rowN n r = rowN n' r := by
  unfold rowN
  induction r with
  | nil => rfl
  | cons s r ih =>
    rw [List.all_cons, List.all_cons, ih fun x hx => h x (List.mem_cons_of_mem _ hx)]
    cases ht : s.tok with
    | true => rfl
    | false => rw [h s (List.mem_cons_self ..) ht]
theorem rowN_mono {n n' : Nat → Bool} {r : List Sy} (h : ∀ x, n x = true → n' x = true) (a : rowN n r = true) : rowN n' r = true := rowN_iff.2 fun s hs => ⟨(rowN_iff.1 a s hs).1, h _ (rowN_iff.1 a s hs).2⟩
theorem rowF_append {n : Nat → Bool} {f : Nat → Nat → Bool} {t : Nat} : ∀ {a b : List Sy}, rowF n f (a ++ b) t = (rowF n f a t || (rowN n a && rowF n f b t))
  | [], b => by simp [rowF, rowN]
  | s :: a, b => by
    rw [List.cons_append, rowF_cons, rowF_cons, rowF_append (a := a)]
    cases ht : s.tok with
    | true => simp [rowN, ht]
    | false =>
      simp only [rowN, List.all_cons, ht, Bool.not_false, Bool.true_and, Bool.false_eq_true, if_false]
      cases f s.at_ t <;> cases n s.at_ <;> simp
theorem rowF_iff {n : Nat → Bool} {f : Nat → Nat → Bool} {t : Nat} : ∀ {r : List Sy}, rowF n f r t = true ↔ ∃ pre s post, r = pre ++ s :: post ∧ rowN n pre = true ∧ (s.tok = true ∧ s.at_ = t ∨ s.tok = false ∧ f s.at_ t = true)
  | [] => by simp [rowF]
  | s :: r => by
    have ih := rowF_iff (n := n) (f := f) (t := t) (r := r)
    unfold rowF
    constructor
    · intro h
      cases ht : s.tok with
      | true =>
        rw [ht] at h
        exact ⟨[], s, r, rfl, rfl, .inl ⟨ht, by simpa using h⟩⟩
      | false =>
        rw [ht] at h
        simp only [Bool.false_eq_true, if_false, Bool.or_eq_true, Bool.and_eq_true] at h
        rcases h with h | ⟨h1, h2⟩
        · exact ⟨[], s, r, rfl, rfl, .inr ⟨ht, h⟩⟩
        · obtain ⟨pre, s', post, e, hn, hh⟩ := ih.1 h2
          exact ⟨s :: pre, s', post, by rw [e]; rfl, rowN_iff.2 fun x hx => by
            rcases List.mem_cons.1 hx with rfl | hx
            · exact ⟨ht, h1⟩
            · exact rowN_iff.1 hn x hx, hh⟩
    · rintro ⟨pre, s', post, e, hn, hh⟩
      cases pre with
      | nil =>
        simp only [List.nil_append, List.cons.injEq] at e
        obtain ⟨rfl, rfl⟩ := e
        rcases hh with ⟨ht, hh⟩ | ⟨ht, hh⟩
        · rw [ht]; simpa using hh
        · rw [ht, hh]; rfl
      | cons x pre =>
        simp only [List.cons_append, List.cons.injEq] at e
        obtain ⟨rfl, rfl⟩ := e
        obtain ⟨ht, hx⟩ := rowN_iff.1 hn s (List.mem_cons_self ..)
        rw [ht, hx, ih.2 ⟨pre, s', post, rfl, rowN_iff.2 fun y hy => rowN_iff.1 hn y (List.mem_cons_of_mem _ hy), hh⟩]
        simp
theorem rowF_congr {n n' : Nat → Bool} {f f' : Nat → Nat → Bool} {t : Nat} {r : List Sy} (h : ∀ s, s ∈ r → s.tok = false → n s.at_ = n' s.at_ ∧ f s.at_ t = f' s.at_ t) : rowF n f r t = rowF n' f' r t := by
  induction r with
  | nil => rfl
  | cons s r ih =>
    unfold rowF
    rw [ih fun x hx => h x (List.mem_cons_of_mem _ hx)]
    cases ht : s.tok with
    | true => rfl
    | false => rw [(h s (List.mem_cons_self ..) ht).1, (h s (List.mem_cons_self ..) ht).2]
theorem rowF_mono {n n' : Nat → Bool} {f f' : Nat → Nat → Bool} {t : Nat} {r : List Sy} (h1 : ∀ x, n x = true → n' x = true) (h2 : ∀ s, s ∈ r → s.tok = false → f s.at_ t = true → f' s.at_ t = true) (a : rowF n f r t = true) : rowF n' f' r t = true := by
  obtain ⟨pre, s, post, rfl, hn, hh⟩ := rowF_iff.1 a
  refine rowF_iff.2 ⟨pre, s, post, rfl, rowN_mono h1 hn, ?_⟩
  rcases hh with h | ⟨h, h'⟩
  · exact .inl h
  · exact .inr ⟨h, h2 s (by simp) h h'⟩

/-! ### What is closed and comes from rules is all of it -/
def ClN (g : Gm) (n : Nat → Bool) : Prop := ∀ p, p ∈ g.prods → rowN n p.right = true → n p.left = true
theorem nullF_close {g : Gm} : ClN g (nullF g) := fun p hp h => nullF_iff.2 (.mk p hp (fun s hs => (rowN_iff.1 h s hs).1) fun s hs => nullF_iff.1 (rowN_iff.1 h s hs).2)
theorem nullP_of {g : Gm} {n : Nat → Bool} (cl : ClN g n) {x : Nat} (h : NullP g x) : n x = true := by
  induction h with
  | mk p hp h1 h2 ih => exact cl p hp (rowN_iff.2 fun s hs => ⟨h1 s hs, ih s hs⟩)
def ClF (g : Gm) (f : Nat → Nat → Bool) : Prop := ∀ p, p ∈ g.prods → ∀ t, t < g.toks.length → rowF (nullF g) f p.right t = true → f p.left t = true
theorem firstF_close {g : Gm} : ClF g (firstF g) := fun p hp t _ h => by
  obtain ⟨pre, s, post, e, hn, hh⟩ := rowF_iff.1 h
  rcases s with ⟨k, y⟩
  rcases hh with ⟨ht, he⟩ | ⟨ht, he⟩
  · simp only at ht he; subst ht; subst he
    exact firstF_iff.2 (.tok p hp pre post _ e hn)
  · simp only at ht he; subst ht
    exact firstF_iff.2 (.nt p hp pre post _ t e hn (firstF_iff.1 he))
theorem firstP_of {g : Gm} {f : Nat → Nat → Bool} (cl : ClF g f) {x t : Nat} (ht : t < g.toks.length) (h : FirstP g x t) : f x t = true := by
  induction h with
  | tok p hp pre post t e hn => exact cl p hp t ht (rowF_iff.2 ⟨pre, _, post, e, hn, .inl ⟨rfl, rfl⟩⟩)
  | nt p hp pre post y t e hn _ ih => exact cl p hp t ht (rowF_iff.2 ⟨pre, _, post, e, hn, .inr ⟨rfl, ih ht⟩⟩)
structure ClO (g : Gm) (f : Nat → Nat → Bool) : Prop where
  eof : f 0 g.toks.length = true
  next : ∀ p, p ∈ g.prods → ∀ pre post y t, p.right = pre ++ ⟨false, y⟩ :: post → t < g.toks.length → rowF (nullF g) (firstF g) post t = true → f y t = true
  last : ∀ p, p ∈ g.prods → ∀ pre post y t, p.right = pre ++ ⟨false, y⟩ :: post → t < g.toks.length + 1 → rowN (nullF g) post = true → f p.left t = true → f y t = true
theorem followF_close {g : Gm} : ClO g (followF g) :=
  ⟨followF_iff.2 .eof, fun p hp pre post y t e h h' => followF_iff.2 (.next p hp pre post y t e h h'), fun p hp pre post y t e _ h h' => followF_iff.2 (.last p hp pre post y t e h (followF_iff.1 h'))⟩
theorem followP_of {g : Gm} {f : Nat → Nat → Bool} (cl : ClO g f) {x t : Nat} (ht : t < g.toks.length + 1) (h : FollowP g x t) : f x t = true := by
  induction h with
  | eof => exact cl.eof
  | next p hp pre post y t e h h' => exact cl.next p hp pre post y t e h h'
  | last p hp pre post y t e h h' ih => exact cl.last p hp pre post y t e ht h (ih ht)

/-! ### How much is yet to come -/
def cntB : Nat → (Nat → Bool) → Nat
  | 0, _ => 0
  | n + 1, p => cntB n p + (if p n then 0 else 1)
theorem cntB_le {p q : Nat → Bool} : ∀ {n : Nat}, (∀ j, j < n → p j = true → q j = true) → cntB n q ≤ cntB n p
  | 0, _ => Nat.le_refl _
  | n + 1, h => by
    have := cntB_le (n := n) fun j hj => h j (by omega)
    have h2 := h n (by omega)
    unfold cntB
    cases hp : p n <;> cases hq : q n <;> simp_all <;> omega
theorem cntB_lt {p q : Nat → Bool} : ∀ {n : Nat}, (∀ j, j < n → p j = true → q j = true) → (∃ j, j < n ∧ p j = false ∧ q j = true) → cntB n q < cntB n p
  | 0, _, ⟨j, hj, _⟩ => by omega
  | n + 1, h, ⟨j, hj, h1, h2⟩ => by
    have hle := cntB_le (n := n) fun j hj => h j (by omega)
    have h3 := h n (by omega)
    unfold cntB
    by_cases he : j = n
    · subst he; rw [h1, h2]; simp; omega
    · have := cntB_lt (n := n) (fun j hj => h j (by omega)) ⟨j, by omega, h1, h2⟩
      cases hp : p n <;> cases hq : q n <;> simp_all <;> omega
def cntM : Nat → Nat → (Nat → Nat → Bool) → Nat
  | 0, _, _ => 0
  | k + 1, w, P => cntM k w P + cntB w (P k)
theorem cntM_le {w : Nat} {p q : Nat → Nat → Bool} : ∀ {n : Nat}, (∀ i j, i < n → j < w → p i j = true → q i j = true) → cntM n w q ≤ cntM n w p
  | 0, _ => Nat.le_refl _
  | n + 1, h => by
    have h1 := cntM_le (n := n) fun i j hi hj => h i j (by omega) hj
    have h2 : cntB w (q n) ≤ cntB w (p n) := cntB_le fun j hj => h n j (by omega) hj
    unfold cntM; omega
theorem cntM_lt {w : Nat} {p q : Nat → Nat → Bool} : ∀ {n : Nat}, (∀ i j, i < n → j < w → p i j = true → q i j = true) → (∃ i j, i < n ∧ j < w ∧ p i j = false ∧ q i j = true) → cntM n w q < cntM n w p
  | 0, _, ⟨i, j, hi, _⟩ => by omega
  | n + 1, h, ⟨i, j, hi, hj, h1, h2⟩ => by
    have hle := cntM_le (n := n) fun i j hi hj => h i j (by omega) hj
    have hle2 : cntB w (q n) ≤ cntB w (p n) := cntB_le fun j hj => h n j (by omega) hj
    unfold cntM
    by_cases he : i = n
    · subst he
      have := cntB_lt (n := w) (fun j hj => h i j (by omega) hj) ⟨j, hj, h1, h2⟩
      omega
    · have := cntM_lt (n := n) (fun i j hi hj => h i j (by omega) hj) ⟨i, j, by omega, hj, h1, h2⟩
      omega
end Go.Det
end
/- first.Nullable. -/
set_option linter.unusedVariables false
set_option linter.unusedSimpArgs false
set_option maxRecDepth 100000
noncomputable section
namespace Go.Det
open Go.Proofs

/-- A block made and filled at once. -/
theorem al_st {h : DH} {t : TypeId} {s : Nat} {z cs : List Value} {F : Value → DH → Prop} (hz : z.length = s) (hl : cs.length = s) (hok : lall okCell cs = true) (K : ∀ h', Ext h h' → Has h' h.n (.cells cs t .exact) → F (.pointer (some ⟨h.n, 0, none⟩)) h') :
    oh (al t z h) fun v h9 => obP (st s h9 v (.agg ⟨cs⟩)) fun h10 => F v h10 := by
  rw [al_ok, oh_some]
  have e2 := Ext.push h (.cells z t .exact)
  have q2 : Has (h.push (.cells z t .exact)) h.n (.cells z t .exact) := Has.push_self _ _
  refine st_ok (c' := cs) q2 rfl rfl rfl hl (by omega) hok (by show cs = z.take 0 ++ cs ++ z.drop (0 + s); rw [List.take_zero, List.nil_append, Nat.zero_add, List.drop_of_length_le (by omega), List.append_nil]) ?_
  exact K _ (e2.trans' (S1 := (· = h.n)) (Kp.upd _ (.inl rfl)) fun x hx => .inr (by omega)) (q2.upd_self _)
theorem al_st1 {h : DH} {t : TypeId} {z v : Value} {F : Value → DH → Prop} (h1 : isTup v = false) (h2 : isTopv v = false) (h3 : cellsOfV v = [v]) (hok : okCell v = true) (K : ∀ h', Ext h h' → Has h' h.n (.cells [v] t .exact) → F (.pointer (some ⟨h.n, 0, none⟩)) h') :
    oh (al t [z] h) fun w h9 => obP (st 1 h9 w v) fun h10 => F w h10 := by
  rw [al_ok, oh_some]
  have e2 := Ext.push h (.cells [z] t .exact)
  have q2 : Has (h.push (.cells [z] t .exact)) h.n (.cells [z] t .exact) := Has.push_self _ _
  refine st_ok (c' := [v]) q2 rfl h1 h2 (by rw [h3]; rfl) (by simp) (by rw [h3]; show sel (okCell v) true false = true; rw [hok]; rfl) (by rw [h3]; rfl) ?_
  exact K _ (e2.trans' (S1 := (· = h.n)) (Kp.upd _ (.inl rfl)) fun x hx => .inr (by omega)) (q2.upd_self _)
/-- A grammar in a block. -/
def GC (h : DH) (gb : Nat) (tv nv pv : Value) (g : Gm) : Prop := Has h gb (.cells [tv, nv, pv] 28 .exact) ∧ GmAt h (.agg ⟨[tv, nv, pv]⟩) g
theorem GC.ks {n0 : Nat} {o ts : List Nat} {h h' : DH} {gb : Nat} {tv nv pv : Value} {g : Gm} (a : GC h gb tv nv pv g) (f : KS n0 o ts h h') (h1 : ∀ x, x ∈ [28, 99, 101, 37, 90, 9] → x ∉ o ∧ x ∉ ts) : GC h' gb tv nv pv g := ⟨a.1.ks f (h1 28 (by simp)).1 (h1 28 (by simp)).2, a.2.ks f fun x hx => h1 x (List.mem_cons_of_mem _ hx)⟩
theorem GC.ext {h h' : DH} {gb : Nat} {tv nv pv : Value} {g : Gm} (a : GC h gb tv nv pv g) (f : Ext h h') : GC h' gb tv nv pv g := ⟨a.1.ext f, a.2.ext f⟩
theorem GC.len {h : DH} {gb : Nat} {tv nv pv : Value} {g : Gm} (a : GC h gb tv nv pv g) : lenS tv = some (.int .i64 (g.toks.length : Int)) ∧ lenS nv = some (.int .i64 (g.nts.length : Int)) ∧ lenS pv = some (.int .i64 (g.prods.length : Int)) := by
  obtain ⟨p1, ⟨nr, p2, p2'⟩, pr, p3, p3'⟩ := a.2.parts
  have h1 := p1.len
  have h2 := p2.len
  have h3 := p3.len
  rw [List.length_map] at h1
  rw [p2'.len] at h2
  rw [p3'.len] at h3
  exact ⟨h1, h2, h3⟩
theorem GC.ld {h : DH} {gb : Nat} {tv nv pv : Value} {g : Gm} (a : GC h gb tv nv pv g) : ld1 h (.pointer (some ⟨gb, 0, none⟩)) = some tv ∧ ld1 h (.pointer (some ⟨gb, 0 + 0, none⟩)) = some tv ∧ ld1 h (.pointer (some ⟨gb, 0 + 1, none⟩)) = some nv ∧ ld1 h (.pointer (some ⟨gb, 0 + 2, none⟩)) = some pv ∧ ldN 3 h (.pointer (some ⟨gb, 0, none⟩)) = some (.agg ⟨[tv, nv, pv]⟩) :=
  ⟨ld1_has a.1 rfl, ld1_has a.1 rfl, ld1_has a.1 rfl, ld1_has a.1 rfl, ldN_has (l := [tv, nv, pv]) a.1 rfl⟩
theorem GC.prod {h : DH} {gb k : Nat} {tv nv pv : Value} {g : Gm} (a : GC h gb tv nv pv g) (hk : k < g.prods.length) :
    ∃ w rv uv, iaS 3 pv (.int .i64 (k : Int)) = some w ∧ ldN 3 h w = some (.agg ⟨[.int .i64 (g.prods[k].left : Int), rv, uv]⟩) ∧ RowsAt h rv 90 2 (g.prods[k].right.map symCells) ∧ lall okCell [.int .i64 (g.prods[k].left : Int), rv, uv] = true := by
  obtain ⟨_, _, pr, p3, p3'⟩ := a.2.parts
  obtain ⟨row, hj, rv, uv, rfl, hr, hu⟩ := p3'.get (List.getElem?_eq_getElem hk)
  obtain ⟨b, q, c, md, k1, k2, k3, k4, k5, k6⟩ := p3.at_ (k := .i64) hj
  refine ⟨_, rv, uv, k1, ldN_has k3 k4, hr, ?_⟩
  have sr := isSl_facts hr.isSl
  have su := isSl_facts hu
  show sel true (sel (okCell rv) (sel (okCell uv) true false) false) false = true
  rw [sr.1, su.1]; rfl
theorem Vec.ks {h h' : DH} {b n n0 : Nat} {p : Nat → Bool} (a : Vec h b n p) (hn : n0 ≤ b) (f : Kp h h' (· = b)) : KS n0 [] [4] h h' := Kp.mono f fun x hx => .inr (by subst hx; exact ⟨hn, .of a rfl (by simp)⟩)
def symOf : List Value → Sy
  | [.bool t, .int _ i] => ⟨t, i.toNat⟩
  | _ => ⟨false, 0⟩
theorem symOf_cells (s : Sy) : symOf (symCells s) = s := by
  rcases s with ⟨t, i⟩
  show (⟨t, (i : Int).toNat⟩ : Sy) = _
  rw [Int.toNat_natCast]

section
variable {g : Gm} {gb nb b : Nat} {tv nv pv : Value}
def NoOk (g : Gm) (p : Nat → Bool) : Prop := ∀ j, j < g.nts.length → p j = true → NullP g j
/-- One symbol: is it in the way? -/
theorem null_sym {h : DH} {s : Sy} {n : Nat} {p : Nat → Bool} {Z : Value → DH → Prop} (qn : Has h nb (.cells [slb b n] 64 .exact)) (av : Vec h b n p) (hs : s.tok = false → s.at_ < n) (K : ∀ h', Ext h h' → Z (.bool (s.tok || !p s.at_)) h') : CP Try.prog 76 [.agg ⟨symCells s⟩, .pointer (some ⟨nb, 0, none⟩)] h Z := by
  apply R76
  refine bx_agg ?_
  have e2 := Ext.push h (.cells (symCells s) 90 .exact)
  have q2 : Has (h.push (.cells (symCells s) 90 .exact)) h.n (.cells [.bool s.tok, .int .i64 (s.at_ : Int)] 90 .exact) := Has.push_self _ _
  have qn2 := qn.ext e2
  have av2 := av.ext e2
  generalize h.push (.cells (symCells s) 90 .exact) = h2 at e2 q2 qn2 av2 ⊢
  have h0 := ld1_has q2 (o := 0 + 0) (v := .bool s.tok) rfl
  have h1 := ld1_has q2 (o := 0 + 1) (v := .int .i64 (s.at_ : Int)) rfl
  have h3 := ld1_has qn2 (o := 0) rfl
  rw [fa_ptr, obP_some, h0, obP_some, gotB_false, obP_some]
  have hK := K h2 e2
  cases ht : s.tok with
  | true =>
    simp only [Bool.not_true, g1_false, pk_bool, sel_true, obP_some]
    rw [ht] at hK; exact hK
  | false =>
    simp only [Bool.not_false, g1_true, h3, fa_ptr, h1, iaS_slb (hs ht), av2.ld (hs ht), bnot_bool, pk_bool, sel_false, obP_some]
    rw [ht] at hK; simpa using hK
/-- One round. -/
theorem null_round {h : DH} {p : Nat → Bool} {Z : Value → DH → Prop} (ok : GmOk g) (a : GC h gb tv nv pv g) (hb : b ≠ nb) (qn : Has h nb (.cells [slb b g.nts.length] 64 .exact)) (av : Vec h b g.nts.length p) (so : NoOk g p)
    (K : ∀ h' p' c, Vec h' b g.nts.length p' → Kp h h' (· = b) → NoOk g p' → (∀ j, j < g.nts.length → p j = true → p' j = true) → (c = false → (∀ j, j < g.nts.length → p' j = p j) ∧ ClN g p) → (c = true → ∃ j, j < g.nts.length ∧ p j = false ∧ p' j = true) → Z (.bool c) h') :
    CP Try.prog 74 [.pointer (some ⟨gb, 0, none⟩), .pointer (some ⟨nb, 0, none⟩)] h Z := by
  apply R74
  rw [fa_ptr, obP_some, a.ld.2.2.2.1, obP_some, a.len.2.2, obP_some]
  suffices loop : ∀ (m k : Nat) h' p' c, g.prods.length - k ≤ m → k ≤ g.prods.length → Vec h' b g.nts.length p' → Kp h h' (· = b) → NoOk g p' → (∀ j, j < g.nts.length → p j = true → p' j = true) → (c = false → (∀ j, j < g.nts.length → p' j = p j) ∧ ∀ pd, pd ∈ g.prods.take k → rowN p pd.right = true → p pd.left = true) → (c = true → ∃ j, j < g.nts.length ∧ p j = false ∧ p' j = true) →
      A74_1 (.pointer (some ⟨nb, 0, none⟩)) (.bool c) pv (.int .i64 (g.prods.length : Int)) (.int .i64 (k : Int)) h' Z by
    exact loop _ 0 h p false (Nat.le_refl _) (Nat.zero_le _) av (Kp.refl _ _) so (fun _ _ h => h) (fun _ => ⟨fun _ _ => rfl, fun pd hp => by simp at hp⟩) (fun h => by cases h)
  intro m
  have done : ∀ h' p' c, Vec h' b g.nts.length p' → Kp h h' (· = b) → NoOk g p' → (∀ j, j < g.nts.length → p j = true → p' j = true) → (c = false → (∀ j, j < g.nts.length → p' j = p j) ∧ ∀ pd, pd ∈ g.prods.take g.prods.length → rowN p pd.right = true → p pd.left = true) → (c = true → ∃ j, j < g.nts.length ∧ p j = false ∧ p' j = true) →
      A74_1 (.pointer (some ⟨nb, 0, none⟩)) (.bool c) pv (.int .i64 (g.prods.length : Int)) (.int .i64 (g.prods.length : Int)) h' Z := by
    intro h' p' c h1 h2 h3 h4 h5 h6
    apply R74_1
    simp only [ibin_lss, obP_some, asB_bool, show decide ((g.prods.length : Int) < (g.prods.length : Int)) = false from decide_eq_false (by omega), bP_false]
    rw [List.take_length] at h5
    exact K h' p' c h1 h2 h3 h4 h5 h6
  induction m with
  | zero =>
    intro k h' p' c hm hk
    have : k = g.prods.length := by omega
    subst this; exact done h' p' c
  | succ m ih =>
    intro k h' p' c hm hk hv f so' le hc0 hc1
    by_cases hlt : k < g.prods.length
    · apply R74_1
      have fk := av.ks (n0 := 0) (Nat.zero_le _) f
      have a' := a.ks fk (by decide)
      have qn' := qn.ks fk (by decide) (by decide)
      obtain ⟨w, rv, uv, k1, k2, k3, k4⟩ := a'.prod hlt
      have hmem : g.prods[k] ∈ g.prods := List.getElem_mem hlt
      simp only [ibin_lss, obP_some, asB_bool, show decide ((k : Int) < (g.prods.length : Int)) = true from decide_eq_true (by omega), bP_true, k1, k2]
      refine al_st (cs := [.int .i64 (g.prods[k].left : Int), rv, uv]) rfl rfl k4 fun h2 e2 q2 => ?_
      rw [fa_ptr, obP_some, ld1_has q2 (o := 0 + 1) (v := rv) rfl, obP_some]
      have hv2 := hv.ext e2
      have qn2 := qn'.ext e2
      refine any75 (k3.ext e2) (fun r => (symOf r).tok || !p' (symOf r).at_) (by have := ok.right _ hmem; rw [List.length_map]; omega) (fun h3 r e3 hr Y hY => ?_) fun h3 e3 => ?_
      · obtain ⟨s, hs, rfl⟩ := List.mem_map.1 hr
        rw [symOf_cells] at hY
        exact null_sym (qn2.ext e3) (hv2.ext e3) (ok.sym _ hmem s hs).2 hY
      · have hany : ((g.prods[k].right.map symCells).any fun r => (symOf r).tok || !p' (symOf r).at_) = !rowN p' g.prods[k].right := by
          rw [List.any_map]
          unfold rowN
          rw [List.not_all_eq_any_not]
          congr 1
          funext s
          show ((symOf (symCells s)).tok || !p' (symOf (symCells s)).at_) = _
          rw [symOf_cells]
          cases s.tok <;> simp
        rw [hany, bnot_bool, obP_some, Bool.not_not, gotB_true, obP_some]
        have hv3 := hv2.ext e3
        have qn3 := qn2.ext e3
        have q3 := q2.ext e3
        have f3 : Kp h h3 (· = b) := (f.ext e2).ext e3
        have hleft := ok.left _ hmem
        have htk : ∀ pd, pd ∈ g.prods.take (k + 1) → pd ∈ g.prods.take k ∨ pd = g.prods[k] := by
          intro pd hpd
          rw [List.take_succ_eq_append_getElem hlt] at hpd
          rcases List.mem_append.1 hpd with h | h
          · exact .inl h
          · exact .inr (by simpa using h)
        cases hr : rowN p' g.prods[k].right with
        | false =>
          simp only [g1_false, g4_false, pk_bool, sel_false, obP_some, asB_bool, bP_false]
          rw [ibin_inc (by have := ok.p.2; omega), obP_some]
          refine ih (k + 1) h3 p' c (by omega) hlt hv3 f3 so' le (fun hc => ⟨(hc0 hc).1, fun pd hpd hrow => ?_⟩) hc1
          rcases htk pd hpd with h | rfl
          · exact (hc0 hc).2 pd h hrow
          · have : rowN p' g.prods[k].right = rowN p g.prods[k].right := rowN_congr fun s hs ht => (hc0 hc).1 _ ((ok.sym _ hmem s hs).2 ht)
            rw [hr] at this; rw [← this] at hrow; cases hrow
        | true =>
          simp only [g1_true, fa_ptr, obP_some, ld1_has qn3 (o := 0) (v := slb b g.nts.length) rfl, ld1_has q3 (o := 0 + 0) (v := .int .i64 (g.prods[k].left : Int)) rfl, g4_true]
          refine set_ok hv3 hleft fun h4 hv4 f4 => ?_
          have so4 : NoOk g (fun j => j == g.prods[k].left || p' j) := by
            intro j hj hp
            simp only [Bool.or_eq_true, beq_iff_eq] at hp
            rcases hp with rfl | hp
            · exact .mk _ hmem (fun s hs => (rowN_iff.1 hr s hs).1) fun s hs => so' _ ((ok.sym _ hmem s hs).2 (rowN_iff.1 hr s hs).1) (rowN_iff.1 hr s hs).2
            · exact so' j hj hp
          have le4 : ∀ j, j < g.nts.length → p j = true → (j == g.prods[k].left || p' j) = true := fun j hj hp => by rw [le j hj hp, Bool.or_true]
          have f4' : Kp h h4 (· = b) := f3.trans f4
          simp only [pk_bool, sel_true, obP_some, asB_bool]
          cases hl : p' g.prods[k].left with
          | false =>
            simp only [Bool.not_false, bP_true]
            rw [ibin_inc (by have := ok.p.2; omega), obP_some]
            refine ih (k + 1) h4 _ true (by omega) hlt hv4 f4' so4 le4 (fun h => by cases h) (fun _ => ⟨g.prods[k].left, hleft, ?_, by simp⟩)
            cases hpl : p g.prods[k].left with
            | false => rfl
            | true => rw [le _ hleft hpl] at hl; cases hl
          | true =>
            simp only [Bool.not_true, bP_false]
            rw [ibin_inc (by have := ok.p.2; omega), obP_some]
            have heq : ∀ j, (j == g.prods[k].left || p' j) = p' j := fun j => by
              by_cases hj : j = g.prods[k].left
              · subst hj; rw [hl, Bool.or_true]
              · simp [hj]
            refine ih (k + 1) h4 p' c (by omega) hlt (hv4.congr fun j _ => heq j) f4' so' le (fun hc => ⟨(hc0 hc).1, fun pd hpd hrow => ?_⟩) hc1
            rcases htk pd hpd with h | rfl
            · exact (hc0 hc).2 pd h hrow
            · rw [← (hc0 hc).1 _ hleft]; exact hl
    · have : k = g.prods.length := by omega
      subst this; exact done h' p' c hv f so' le hc0 hc1
end
theorem nullable_ok {h : DH} {v : Value} {g : Gm} {Z : Value → DH → Prop} (ok : GmOk g) (a : GmAt h v g) (K : ∀ h' b, Ext h h' → h.n ≤ b → Vec h' b g.nts.length (nullF g) → Z (slb b g.nts.length) h') : CP Try.prog 35 [v] h Z := by
  apply R35
  refine a.boxed fun h1 tv nv pv _ q1 a1 e1 => ?_
  have c1 : GC h1 h.n tv nv pv g := ⟨q1, a1⟩
  rw [c1.ld.2.2.2.2, obP_some]
  refine may_ok a1 ok fun h2 e2 => ?_
  have c2 := c1.ext e2
  rw [bnot_bool, obP_some, asB_bool, obP_some]
  simp only [Bool.not_true, bP_false, fa_ptr, obP_some, c2.ld.2.2.1, c2.len.2.1]
  have hn := ok.n.2
  refine mkS_ok (Nat.le_refl _) (by omega) (by omega) ?_
  rw [← bitsL_lrep]
  have e3 := Ext.push h2 (.cells (bitsL g.nts.length fun _ => false) 4 .exact)
  have v3 : Vec (h2.push (.cells (bitsL g.nts.length fun _ => false) 4 .exact)) h2.n g.nts.length (fun _ => false) := Has.push_self _ _
  generalize h2.push (.cells (bitsL g.nts.length fun _ => false) 4 .exact) = h3 at e3 v3 ⊢
  refine al_st1 rfl rfl rfl rfl fun h4 e4 q4 => ?_
  have e14 : Ext h1 h4 := (e2.trans e3).trans e4
  have hnb : h2.n ≠ h3.n := by have := v3.1; omega
  refine grows_ok (I := fun n h' => ∃ p, cntB g.nts.length p ≤ n ∧ Vec h' h2.n g.nts.length p ∧ Kp h4 h' (· = h2.n) ∧ NoOk g p) (D := fun h' => Vec h' h2.n g.nts.length (nullF g) ∧ Kp h4 h' (· = h2.n)) (fun h' hd => ?_) (fun n h' hi Y y1 y2 => ?_) _ h4 ⟨fun _ => false, Nat.le_refl _, v3.ext e4, Kp.refl _ _, fun j _ hp => by cases hp⟩
  · have v4 := v3.ext e4
    have fk := v4.ks (n0 := h2.n) (Nat.le_refl _) hd.2
    rw [ld1_has (q4.ks fk (by decide) (by decide)) (o := 0) (v := slb h2.n g.nts.length) rfl, obP_some]
    refine K h' h2.n ?_ (Nat.le_trans e1.n e2.n) hd.1
    refine e1.trans ((e2.trans ((e3.trans e4).trans' hd.2 fun x hx => .inr (by omega))))
  · obtain ⟨p, hcnt, hv, hf, so⟩ := hi
    show CP Try.prog 74 [.pointer (some ⟨h.n, 0, none⟩), .pointer (some ⟨h3.n, 0, none⟩)] h' Y
    have v4 := v3.ext e4
    have fk := v4.ks (n0 := h2.n) (Nat.le_refl _) hf
    refine null_round ok ((c1.ext e14).ks fk (by decide)) hnb (q4.ks fk (by decide) (by decide)) hv so fun h5 p' c k1 k2 k3 k4 k5 k6 => ?_
    cases c with
    | false =>
      obtain ⟨k7, k8⟩ := k5 rfl
      refine y1 h5 ⟨k1.congr fun j hj => ?_, hf.trans k2⟩
      rw [k7 j hj]
      cases hp : p j with
      | true => exact (nullF_iff.2 (so j hj hp)).symm
      | false =>
        cases hnf : nullF g j with
        | false => rfl
        | true => rw [nullP_of k8 (nullF_iff.1 hnf)] at hp; cases hp
    | true => exact y2 (cntB g.nts.length p') h5 (Nat.lt_of_lt_of_le (cntB_lt k4 (k6 rfl)) hcnt) ⟨p', Nat.le_refl _, k1, hf.trans k2, k3⟩
end Go.Det
end
/- first.First. -/
set_option linter.unusedVariables false
set_option linter.unusedSimpArgs false
set_option maxRecDepth 100000
noncomputable section
namespace Go.Det
open Go.Proofs

def rowsL (k w : Nat) (bs : Nat → Nat) : List Value := (List.range k).map fun i => slb (bs i) w
/-- Rows of bits. -/
structure Mat (h : DH) (m k w : Nat) (bs : Nat → Nat) (P : Nat → Nat → Bool) : Prop where
  hd : ∃ md, Has h m (.cells (rowsL k w bs) 64 md)
  vec : ∀ i, i < k → Vec h (bs i) w (P i)
  inj : ∀ i j, i < k → j < k → bs i = bs j → i = j
section
variable {h h' : DH} {m k w n0 : Nat} {bs : Nat → Nat} {P Q : Nat → Nat → Bool}
theorem Mat.ext (a : Mat h m k w bs P) (f : Ext h h') : Mat h' m k w bs P := ⟨a.hd.imp fun _ q => q.ext f, fun i hi => (a.vec i hi).ext f, a.inj⟩
theorem Mat.congr (a : Mat h m k w bs P) (e : ∀ i j, i < k → j < w → P i j = Q i j) : Mat h m k w bs Q := ⟨a.hd, fun i hi => (a.vec i hi).congr fun j hj => e i j hi hj, a.inj⟩
theorem Mat.old {o ts : List Nat} (a : Mat h m k w bs P) (f : KS n0 o ts h h') (h1 : 4 ∉ o) (h2 : 64 ∉ o) (h3 : 64 ∉ ts) (hb : ∀ i, i < k → bs i < n0) : Mat h' m k w bs P := ⟨a.hd.imp fun _ q => q.ks f h2 h3, fun i hi => Has.old (a.vec i hi) f h1 (hb i hi), a.inj⟩
theorem rowsL_get {i : Nat} (hi : i < k) : (rowsL k w bs)[i]? = some (slb (bs i) w) := by simp [rowsL, hi]
theorem Mat.row (a : Mat h m k w bs P) {i : Nat} (hi : i < k) : ld1 h (.pointer (some ⟨m, i, none⟩)) = some (slb (bs i) w) := by
  obtain ⟨md, q⟩ := a.hd
  exact ld1_has q (rowsL_get hi)
theorem Mat.upd (a : Mat h m k w bs P) {i : Nat} {p : Nat → Bool} (hi : i < k) (f : Kp h h' (· = bs i)) (v : Vec h' (bs i) w p) : Mat h' m k w bs (fun x => if x = i then p else P x) := by
  obtain ⟨md, q⟩ := a.hd
  refine ⟨⟨md, q.kp f ?_⟩, fun j hj => ?_, a.inj⟩
  · intro hm
    have := a.vec i hi
    rw [← hm] at this
    have := q.inj this
    simp at this
  · by_cases he : j = i
    · subst he; simpa using v
    · simp only [if_neg he]
      exact (a.vec j hj).kp f fun hb => he (a.inj j i hj hi hb)
theorem rowsL_set {i k w : Nat} {f : Nat → Nat} (hi : i < k) : ((List.range k).map fun j => if j < i + 1 then slb (f j) w else Value.slice none 0 0) = ((List.range k).map fun j => if j < i then slb (f j) w else Value.slice none 0 0).take i ++ [slb (f i) w] ++ ((List.range k).map fun j => if j < i then slb (f j) w else Value.slice none 0 0).drop (i + 1) := by
  have : ∀ (l : List Value), i < l.length → l.take i ++ [slb (f i) w] ++ l.drop (i + 1) = l.set i (slb (f i) w) := by
    intro l hl
    rw [List.set_eq_take_append_cons_drop, if_pos hl]; simp
  rw [this _ (by simpa using hi)]
  refine List.ext_getElem? fun j => ?_
  rw [List.getElem?_set]
  by_cases hj : j < k
  · by_cases he : i = j
    · subst he; simp [hj]
    · rw [if_neg he]
      simp only [List.getElem?_map, List.getElem?_range hj, Option.map_some, Option.some.injEq]
      by_cases hlt : j < i
      · rw [if_pos hlt, if_pos (by omega)]
      · rw [if_neg hlt, if_neg (by omega)]
  · rw [if_neg (by omega), List.getElem?_eq_none (by simpa using hj), List.getElem?_eq_none (by simpa using hj)]
end
theorem sets_ok {h : DH} {k w : Nat} {Z : Value → DH → Prop} (hk : k < 1000) (hw : w < 1000) (K : ∀ h' m bs, Ext h h' → h.n ≤ m → (∀ i, i < k → h.n ≤ bs i) → Mat h' m k w bs (fun _ _ => false) → Z (slb m k) h') : CP Try.prog 78 [.int .i64 (k : Int), .int .i64 (w : Int)] h Z := by
  apply R78
  refine mkS_ok (Nat.le_refl _) (by omega) (by omega) ?_
  rw [lenS_sl, obP_some]
  have e1 := Ext.push h (.cells (lrep [(Value.slice none 0 0)] k) 64 .exact)
  have q1 : Has (h.push (.cells (lrep [(Value.slice none 0 0)] k) 64 .exact)) h.n (.cells (lrep [(Value.slice none 0 0)] k) 64 .exact) := Has.push_self _ _
  have hn : (h.push (.cells (lrep [(Value.slice none 0 0)] k) 64 .exact)).n = h.n + 1 := rfl
  generalize h.push (.cells (lrep [(Value.slice none 0 0)] k) 64 .exact) = h1 at e1 q1 hn ⊢
  suffices loop : ∀ (m i : Nat) h', k - i ≤ m → i ≤ k → Ext h h' → h'.n = h.n + 1 + i → Has h' h.n (.cells ((List.range k).map fun j => if j < i then slb (h.n + 1 + j) w else .slice none 0 0) 64 .exact) → (∀ j, j < i → Vec h' (h.n + 1 + j) w (fun _ => false)) → A78_1 (.int .i64 (w : Int)) (slb h.n k) (.int .i64 (k : Int)) (.int .i64 (i : Int)) h' Z by
    refine loop _ 0 h1 (Nat.le_refl _) (Nat.zero_le _) e1 hn ?_ (fun j hj => by omega)
    have : ((List.range k).map fun j => if j < 0 then slb (h.n + 1 + j) w else Value.slice none 0 0) = lrep [(Value.slice none 0 0)] k := by
      rw [lrep_one]
      refine List.eq_replicate_iff.2 ⟨by simp, fun v hv => ?_⟩
      obtain ⟨i, _, rfl⟩ := List.mem_map.1 hv; simp
    rw [this]; exact q1
  intro m
  have done : ∀ h', Ext h h' → Has h' h.n (.cells ((List.range k).map fun j => if j < k then slb (h.n + 1 + j) w else .slice none 0 0) 64 .exact) → (∀ j, j < k → Vec h' (h.n + 1 + j) w (fun _ => false)) → A78_1 (.int .i64 (w : Int)) (slb h.n k) (.int .i64 (k : Int)) (.int .i64 (k : Int)) h' Z := by
    intro h' e q v
    apply R78_1
    simp only [ibin_lss, obP_some, asB_bool, show decide ((k : Int) < (k : Int)) = false from decide_eq_false (by omega), bP_false]
    refine K h' h.n (fun j => h.n + 1 + j) e (Nat.le_refl _) (fun i hi => by omega) ⟨?_, v, fun i j _ _ hij => by omega⟩
    have : ((List.range k).map fun j => if j < k then slb (h.n + 1 + j) w else Value.slice none 0 0) = rowsL k w (fun j => h.n + 1 + j) := List.map_congr_left fun j hj => by rw [if_pos (List.mem_range.1 hj)]
    rw [← this]; exact ⟨_, q⟩
  induction m with
  | zero =>
    intro i h' hm hi e hn' q v
    have : i = k := by omega
    subst this; exact done h' e q v
  | succ m ih =>
    intro i h' hm hi e hn' q v
    by_cases hlt : i < k
    · apply R78_1
      simp only [ibin_lss, obP_some, asB_bool, show decide ((i : Int) < (k : Int)) = true from decide_eq_true (by omega), bP_true]
      refine mkS_ok (Nat.le_refl _) (by omega) (by omega) ?_
      rw [← bitsL_lrep, hn']
      have e2 := Ext.push h' (.cells (bitsL w fun _ => false) 4 .exact)
      have v2 : Vec (h'.push (.cells (bitsL w fun _ => false) 4 .exact)) (h.n + 1 + i) w (fun _ => false) := hn' ▸ Has.push_self _ _
      have hn2 : (h'.push (.cells (bitsL w fun _ => false) 4 .exact)).n = h.n + 1 + (i + 1) := by show h'.n + 1 = _; omega
      generalize h'.push (.cells (bitsL w fun _ => false) 4 .exact) = h2 at e2 v2 hn2 ⊢
      rw [iaS_slb hlt, obP_some]
      have q2 := q.ext e2
      refine st_ok (c' := (List.range k).map fun j => if j < i + 1 then slb (h.n + 1 + j) w else .slice none 0 0) q2 rfl rfl rfl rfl (by simp; omega) rfl (rowsL_set hlt) ?_
      have q3 : Has (h2.upd h.n (.cells ((List.range k).map fun j => if j < i + 1 then slb (h.n + 1 + j) w else .slice none 0 0) 64 .exact)) h.n (.cells ((List.range k).map fun j => if j < i + 1 then slb (h.n + 1 + j) w else .slice none 0 0) 64 .exact) := q2.upd_self _
      have f3 : Kp h2 (h2.upd h.n (.cells ((List.range k).map fun j => if j < i + 1 then slb (h.n + 1 + j) w else .slice none 0 0) 64 .exact)) (· = h.n) := Kp.upd _ (.inl rfl)
      have hn3 : (h2.upd h.n (.cells ((List.range k).map fun j => if j < i + 1 then slb (h.n + 1 + j) w else .slice none 0 0) 64 .exact)).n = h.n + 1 + (i + 1) := hn2
      generalize h2.upd h.n (.cells ((List.range k).map fun j => if j < i + 1 then slb (h.n + 1 + j) w else .slice none 0 0) 64 .exact) = h3 at q3 f3 hn3 ⊢
      rw [ibin_inc (by omega), obP_some]
      refine ih (i + 1) h3 (by omega) hlt ((e.trans e2).trans' f3 fun x hx => .inr (by omega)) hn3 q3 fun j hj => ?_
      have : Vec h2 (h.n + 1 + j) w (fun _ => false) := by
        rcases Nat.lt_or_eq_of_le (Nat.lt_succ_iff.1 hj) with h1 | h1
        · exact (v j h1).ext e2
        · subst h1; exact v2
      exact this.kp f3 (by omega)
    · have : i = k := by omega
      subst this; exact done h' e q v
/-- What a row begins with. -/
theorem begins_ok {h : DH} {v rv : Value} {g : Gm} {nb m : Nat} {nf : Nat → Bool} {bs : Nat → Nat} {P : Nat → Nat → Bool} {r : List Sy} {Z : Value → DH → Prop} (a : GmAt h v g) (ht : g.toks.length ≤ 8) (vn : Vec h nb g.nts.length nf) (mt : Mat h m g.nts.length g.toks.length bs P) (hr : RowsAt h rv 90 2 (r.map symCells)) (hrl : r.length < 1000) (hs : ∀ s, s ∈ r → SymOk g s)
    (K : ∀ h' b, Ext h h' → h.n ≤ b → Vec h' b g.toks.length (rowF nf P r) → Z (.tuple ⟨[slb b g.toks.length, .bool (rowN nf r)]⟩) h') : CP Try.prog 80 [v, slb nb g.nts.length, slb m g.nts.length, rv] h Z := by
  apply R80
  refine a.boxed fun h1 tv nv pv _ q1 a1 e1 => ?_
  have c1 : GC h1 h.n tv nv pv g := ⟨q1, a1⟩
  rw [fa_ptr, obP_some, c1.ld.2.1, obP_some, c1.len.1, obP_some]
  refine mkS_ok (Nat.le_refl _) (by omega) (by omega) ?_
  rw [← bitsL_lrep]
  have e2 := Ext.push h1 (.cells (bitsL g.toks.length fun _ => false) 4 .exact)
  have v2 : Vec (h1.push (.cells (bitsL g.toks.length fun _ => false) 4 .exact)) h1.n g.toks.length (fun _ => false) := Has.push_self _ _
  have c2 := c1.ext e2
  have hb0 : h.n < h1.n := q1.1
  generalize h1.n = b at v2 hb0 ⊢
  generalize h1.push (.cells (bitsL g.toks.length fun _ => false) 4 .exact) = h2 at e2 v2 c2 ⊢
  rw [hr.len, obP_some, List.length_map]
  have hnts : g.nts.length = g.nts.length := rfl
  suffices loop : ∀ (k i : Nat) h', r.length - i ≤ k → i ≤ r.length → Ext h h' → GC h' h.n tv nv pv g → rowN nf (r.take i) = true → Vec h' b g.toks.length (rowF nf P (r.take i)) →
      A80_1 (slb nb g.nts.length) (slb m g.nts.length) (.pointer (some ⟨h.n, 0, none⟩)) (slb b g.toks.length) rv (.int .i64 (r.length : Int)) (.int .i64 (i : Int)) h' Z by
    exact loop _ 0 h2 (Nat.le_refl _) (Nat.zero_le _) (e1.trans e2) c2 rfl (v2.congr fun j _ => rfl)
  intro k
  have done : ∀ h', Ext h h' → rowN nf r = true → Vec h' b g.toks.length (rowF nf P r) → A80_1 (slb nb g.nts.length) (slb m g.nts.length) (.pointer (some ⟨h.n, 0, none⟩)) (slb b g.toks.length) rv (.int .i64 (r.length : Int)) (.int .i64 (r.length : Int)) h' Z := by
    intro h' e hn hv
    apply R80_1
    simp only [ibin_lss, obP_some, asB_bool, show decide ((r.length : Int) < (r.length : Int)) = false from decide_eq_false (by omega), bP_false]
    have := K h' b e (by omega) hv
    rw [hn] at this; exact this
  induction k with
  | zero =>
    intro i h' hk hi e _ hn hv
    have : i = r.length := by omega
    subst this
    rw [List.take_length] at hn hv
    exact done h' e hn hv
  | succ k ih =>
    intro i h' hk hi e c' hn hv
    by_cases hlt : i < r.length
    · apply R80_1
      have hj : (r.map symCells)[i]? = some (symCells r[i]) := by simp [hlt]
      obtain ⟨b', q', cc, md, k1, k2, k3, k4, k5, k6⟩ := (hr.ext e).at_ (k := .i64) hj
      have hso := hs _ (List.getElem_mem hlt)
      have hsplit : r = r.take i ++ r[i] :: r.drop (i + 1) := by
        rw [← List.drop_eq_getElem_cons hlt, List.take_append_drop]
      have hF : ∀ t, rowF nf P r t = (rowF nf P (r.take i) t || rowF nf P (r[i] :: r.drop (i + 1)) t) := fun t => by
        conv => lhs; rw [hsplit]
        rw [rowF_append, hn, Bool.true_and]
      have hN : rowN nf r = rowN nf (r[i] :: r.drop (i + 1)) := by
        conv => lhs; rw [hsplit]
        rw [rowN_append, hn, Bool.true_and]
      have htk : r.take (i + 1) = r.take i ++ [r[i]] := List.take_succ_eq_append_getElem hlt
      generalize hse : r[i] = s at *
      simp only [ibin_lss, obP_some, asB_bool, show decide ((i : Int) < (r.length : Int)) = true from decide_eq_true (by omega), bP_true, k1]
      refine obP_of (ldN_has k3 k4) ?_
      refine al_st (cs := symCells s) rfl rfl rfl fun h3 e3 q3 => ?_
      have p0 := ld1_has q3 (o := 0 + 0) (v := .bool s.tok) rfl
      have p1 := ld1_has q3 (o := 0 + 1) (v := .int .i64 (s.at_ : Int)) rfl
      have c3 := c'.ext e3
      have hv3 := hv.ext e3
      have l0 := c3.ld.2.1
      have l1 := c3.ld.2.2.1
      have e03 := e.trans e3
      cases hst : s.tok with
      | true =>
        rw [hst] at p0
        obtain ⟨t, ht1, _⟩ := hso.1 hst
        have hat : s.at_ < g.toks.length := (List.getElem?_eq_some_iff.1 ht1).1
        simp only [fa_ptr, obP_some, p0, p1, l0, l1, c3.len.1, c3.len.2.1, ibin_lss, show decide ((s.at_ : Int) < 0) = false from decide_eq_false (by omega), gotB_false, Bool.not_false, g1_true, sel_true, gotB_true, ibin_geq, show decide ((g.toks.length : Int) ≤ (s.at_ : Int)) = false from decide_eq_false (by omega), pk_bool, sel_false, bnot_bool, Bool.not_true, g1_false, asB_bool, bP_false, bP_true, iaS_slb hat]
        refine hv3.st hat fun h4 hv4 f4 => ?_
        have e4 : Ext h h4 := e03.trans' f4 fun x hx => .inr (by omega)
        have := K h4 b e4 (by omega) (hv4.congr fun t _ => by
          rw [hF t, rowF_cons, hst, if_pos rfl, Bool.or_comm, show (t == s.at_) = (s.at_ == t) from Bool.eq_iff_iff.2 ⟨fun h => by simp at h; simp [h], fun h => by simp at h; simp [h]⟩])
        rw [hN, show rowN nf (s :: r.drop (i + 1)) = false from by simp [rowN, hst]] at this
        exact this
      | false =>
        rw [hst] at p0
        have hat := hso.2 hst
        simp only [fa_ptr, obP_some, p0, p1, l0, l1, c3.len.1, c3.len.2.1, ibin_lss, show decide ((s.at_ : Int) < 0) = false from decide_eq_false (by omega), gotB_false, Bool.not_false, g1_true, sel_true, gotB_true, ibin_geq, show decide ((g.nts.length : Int) ≤ (s.at_ : Int)) = false from decide_eq_false (by omega), pk_bool, sel_false, bnot_bool, Bool.not_true, g1_false, asB_bool, bP_false, bP_true, iaS_slb hat, (mt.ext e03).row hat]
        refine union_ok hv3 ((mt.ext e03).vec _ hat) (Nat.le_refl _) (by omega) fun h4 g4' hv4 f4 _ _ => ?_
        have e4 : Ext h h4 := e03.trans' f4 fun x hx => .inr (by omega)
        have hq : Has h4 h'.n (.cells (symCells s) 90 .exact) := q3.kp f4 (by have := hv.1; omega)
        have p1' := ld1_has hq (o := 0 + 1) (v := .int .i64 (s.at_ : Int)) rfl
        simp only [fa_ptr, obP_some, p1', iaS_slb hat, (vn.ext e4).ld hat, bnot_bool, asB_bool]
        cases hnf : nf s.at_ with
        | false =>
          simp only [Bool.not_false, bP_true]
          have := K h4 b e4 (by omega) (hv4.congr fun t ht => by
            rw [hF t, rowF_cons, hst, hnf]; simp [ht])
          rw [hN, show rowN nf (s :: r.drop (i + 1)) = false from by simp [rowN, hst, hnf]] at this
          exact this
        | true =>
          simp only [Bool.not_true, bP_false]
          rw [ibin_inc (by omega), obP_some]
          refine ih (i + 1) h4 (by omega) hlt e4 (c3.ks (hv3.ks (n0 := 0) (Nat.zero_le _) f4) (by decide)) ?_ ?_
          · rw [htk, rowN_append, hn]; simp [rowN, hst, hnf]
          · refine hv4.congr fun t ht => ?_
            rw [htk, rowF_append, hn, rowF_cons, hst]; simp [ht, rowF]
    · have : i = r.length := by omega
      subst this
      rw [List.take_length] at hn hv
      exact done h' e hn hv
end Go.Det
end
/- first.First. -/
set_option linter.unusedVariables false
set_option linter.unusedSimpArgs false
set_option maxRecDepth 100000
noncomputable section
namespace Go.Det
open Go.Proofs

section
variable {g : Gm} {gb nb nb0 fb m n0 : Nat} {tv nv pv : Value} {bs : Nat → Nat}
def FiOk (g : Gm) (P : Nat → Nat → Bool) : Prop := ∀ i j, i < g.nts.length → j < g.toks.length → P i j = true → FirstP g i j
theorem first_round {h : DH} {P : Nat → Nat → Bool} {Z : Value → DH → Prop} (ok : GmOk g) (a : GC h gb tv nv pv g) (qn : Has h nb0 (.cells [slb nb g.nts.length] 64 .exact)) (qf : Has h fb (.cells [slb m g.nts.length] 65 .exact)) (vn : Vec h nb g.nts.length (nullF g)) (hnb : nb < n0) (mt : Mat h m g.nts.length g.toks.length bs P) (hbs : ∀ i, i < g.nts.length → n0 ≤ bs i) (so : FiOk g P)
    (K : ∀ h' P' c, Mat h' m g.nts.length g.toks.length bs P' → KS n0 [] [4] h h' → FiOk g P' → (∀ i j, i < g.nts.length → j < g.toks.length → P i j = true → P' i j = true) → (c = false → (∀ i j, i < g.nts.length → j < g.toks.length → P' i j = P i j) ∧ ClF g P) → (c = true → ∃ i j, i < g.nts.length ∧ j < g.toks.length ∧ P i j = false ∧ P' i j = true) → Z (.bool c) h') :
    CP Try.prog 79 [.pointer (some ⟨gb, 0, none⟩), .pointer (some ⟨nb0, 0, none⟩), .pointer (some ⟨fb, 0, none⟩)] h Z := by
  apply R79
  rw [fa_ptr, obP_some, a.ld.2.2.2.1, obP_some, a.len.2.2, obP_some]
  suffices loop : ∀ (q k : Nat) h' P' c, g.prods.length - k ≤ q → k ≤ g.prods.length → Mat h' m g.nts.length g.toks.length bs P' → KS n0 [] [4] h h' → FiOk g P' → (∀ i j, i < g.nts.length → j < g.toks.length → P i j = true → P' i j = true) → (c = false → (∀ i j, i < g.nts.length → j < g.toks.length → P' i j = P i j) ∧ ∀ pd, pd ∈ g.prods.take k → ∀ t, t < g.toks.length → rowF (nullF g) P pd.right t = true → P pd.left t = true) → (c = true → ∃ i j, i < g.nts.length ∧ j < g.toks.length ∧ P i j = false ∧ P' i j = true) →
      A79_1 (.pointer (some ⟨gb, 0, none⟩)) (.pointer (some ⟨nb0, 0, none⟩)) (.pointer (some ⟨fb, 0, none⟩)) (.bool c) pv (.int .i64 (g.prods.length : Int)) (.int .i64 (k : Int)) h' Z by
    exact loop _ 0 h P false (Nat.le_refl _) (Nat.zero_le _) mt (KS.refl _ _ _ _) so (fun _ _ _ _ h => h) (fun _ => ⟨fun _ _ _ _ => rfl, fun pd hp => by simp at hp⟩) (fun h => by cases h)
  intro q
  have done : ∀ h' P' c, Mat h' m g.nts.length g.toks.length bs P' → KS n0 [] [4] h h' → FiOk g P' → (∀ i j, i < g.nts.length → j < g.toks.length → P i j = true → P' i j = true) → (c = false → (∀ i j, i < g.nts.length → j < g.toks.length → P' i j = P i j) ∧ ∀ pd, pd ∈ g.prods.take g.prods.length → ∀ t, t < g.toks.length → rowF (nullF g) P pd.right t = true → P pd.left t = true) → (c = true → ∃ i j, i < g.nts.length ∧ j < g.toks.length ∧ P i j = false ∧ P' i j = true) →
      A79_1 (.pointer (some ⟨gb, 0, none⟩)) (.pointer (some ⟨nb0, 0, none⟩)) (.pointer (some ⟨fb, 0, none⟩)) (.bool c) pv (.int .i64 (g.prods.length : Int)) (.int .i64 (g.prods.length : Int)) h' Z := by
    intro h' P' c h1 h2 h3 h4 h5 h6
    apply R79_1
    simp only [ibin_lss, obP_some, asB_bool, show decide ((g.prods.length : Int) < (g.prods.length : Int)) = false from decide_eq_false (by omega), bP_false]
    rw [List.take_length] at h5
    exact K h' P' c h1 h2 h3 h4 h5 h6
  induction q with
  | zero =>
    intro k h' P' c hm hk
    have : k = g.prods.length := by omega
    subst this; exact done h' P' c
  | succ q ih =>
    intro k h' P' c hm hk mt' fk so' le hc0 hc1
    by_cases hlt : k < g.prods.length
    · apply R79_1
      have a' := a.ks fk (by decide)
      have qn' := qn.ks fk (by decide) (by decide)
      have qf' := qf.ks fk (by decide) (by decide)
      have vn' : Vec h' nb g.nts.length (nullF g) := Has.old vn fk (by decide) hnb
      obtain ⟨w, rv, uv, k1, k2, k3, k4⟩ := a'.prod hlt
      have hmem : g.prods[k] ∈ g.prods := List.getElem_mem hlt
      simp only [ibin_lss, obP_some, asB_bool, show decide ((k : Int) < (g.prods.length : Int)) = true from decide_eq_true (by omega), bP_true, k1, k2]
      refine al_st (cs := [.int .i64 (g.prods[k].left : Int), rv, uv]) rfl rfl k4 fun h2 e2 q2 => ?_
      have a2 := a'.ext e2
      have qn2 := qn'.ext e2
      have qf2 := qf'.ext e2
      simp only [fa_ptr, obP_some, a2.ld.2.2.2.2, ld1_has qn2 (o := 0) rfl, ld1_has qf2 (o := 0) rfl, ld1_has q2 (o := 0 + 1) (v := rv) rfl]
      have hrl := ok.right _ hmem
      have hleft := ok.left _ hmem
      refine begins_ok a2.2 ok.t.2 (vn'.ext e2) (mt'.ext e2) (k3.ext e2) (by omega) (ok.sym _ hmem) fun h3 lb e3 hlb hv3 => ?_
      have e23 := e2.trans e3
      have mt3 := mt'.ext e23
      rw [show ext1 (.tuple ⟨[slb lb g.toks.length, .bool (rowN (nullF g) g.prods[k].right)]⟩) 0 = some (slb lb g.toks.length) from rfl, obP_some, show ext1 (.tuple ⟨[slb lb g.toks.length, .bool (rowN (nullF g) g.prods[k].right)]⟩) 1 = some (.bool (rowN (nullF g) g.prods[k].right)) from rfl, obP_some, ld1_has (qf2.ext e3) (o := 0) rfl, obP_some, ld1_has (q2.ext e3) (o := 0 + 0) (v := .int .i64 (g.prods[k].left : Int)) rfl, obP_some, iaS_slb hleft, obP_some, mt3.row hleft, obP_some]
      refine union_ok (mt3.vec _ hleft) hv3 (Nat.le_refl _) (by have := ok.t.2; omega) fun h4 c4 hv4 f4 u0 u1 => ?_
      have mt4 := mt3.upd hleft f4 hv4
      have fk4 : KS n0 [] [4] h h4 := (fk.trans (KS.ext e23)).trans ((mt3.vec _ hleft).ks (hbs _ hleft) f4)
      have hsn : ∀ t, t < g.toks.length → rowF (nullF g) P' g.prods[k].right t = true → FirstP g g.prods[k].left t := fun t ht hh =>
        firstF_iff.1 (firstF_close _ hmem t ht (rowF_mono (fun _ h => h) (fun s hs hst hp => firstF_iff.2 (so' _ _ ((ok.sym _ hmem s hs).2 hst) ht hp)) hh))
      have so4 : FiOk g (fun x => if x = g.prods[k].left then (fun j => P' g.prods[k].left j || (decide (j < g.toks.length) && rowF (nullF g) P' g.prods[k].right j)) else P' x) := by
        intro i j hi hj hp
        by_cases he : i = g.prods[k].left
        · subst he
          simp only [if_pos, Bool.or_eq_true, Bool.and_eq_true] at hp
          rcases hp with hp | ⟨_, hp⟩
          · exact so' _ _ hi hj hp
          · exact hsn j hj hp
        · simp only [if_neg he] at hp
          exact so' i j hi hj hp
      have le4 : ∀ i j, i < g.nts.length → j < g.toks.length → P' i j = true → (if i = g.prods[k].left then (fun j => P' g.prods[k].left j || (decide (j < g.toks.length) && rowF (nullF g) P' g.prods[k].right j)) else P' i) j = true := by
        intro i j hi hj hp
        by_cases he : i = g.prods[k].left
        · subst he; simp [hp]
        · simp only [if_neg he]; exact hp
      have htk : ∀ pd, pd ∈ g.prods.take (k + 1) → pd ∈ g.prods.take k ∨ pd = g.prods[k] := by
        intro pd hpd
        rw [List.take_succ_eq_append_getElem hlt] at hpd
        rcases List.mem_append.1 hpd with h | h
        · exact .inl h
        · exact .inr (by simpa using h)
      rw [asB_bool, obP_some]
      cases c4 with
      | true =>
        rw [bP_true, ibin_inc (by have := ok.p.2; omega), obP_some]
        obtain ⟨j, hj, hj1, hj2⟩ := u1 rfl
        refine ih (k + 1) h4 _ true (by omega) hlt mt4 fk4 so4 (fun i j hi hj hp => le4 i j hi hj (le i j hi hj hp)) (fun h => by cases h) (fun _ => ⟨g.prods[k].left, j, hleft, hj, ?_, by simp [hj1, hj]⟩)
        cases hpp : P g.prods[k].left j with
        | false => rfl
        | true => rw [le _ _ hleft hj hpp] at hj2; cases hj2
      | false =>
        rw [bP_false, ibin_inc (by have := ok.p.2; omega), obP_some]
        have heq : ∀ i j, i < g.nts.length → j < g.toks.length → (if i = g.prods[k].left then (fun j => P' g.prods[k].left j || (decide (j < g.toks.length) && rowF (nullF g) P' g.prods[k].right j)) else P' i) j = P' i j := by
          intro i j hi hj
          by_cases he : i = g.prods[k].left
          · subst he
            simp only [if_pos]
            cases hr : rowF (nullF g) P' g.prods[k].right j with
            | false => simp
            | true => rw [u0 rfl j hj hr]; rfl
          · simp only [if_neg he]
        refine ih (k + 1) h4 P' c (by omega) hlt (mt4.congr heq) fk4 so' le (fun hc => ⟨(hc0 hc).1, fun pd hpd t ht hrow => ?_⟩) hc1
        rcases htk pd hpd with h | rfl
        · exact (hc0 hc).2 pd h t ht hrow
        · have hre : rowF (nullF g) P' g.prods[k].right t = rowF (nullF g) P g.prods[k].right t := rowF_congr fun s hs hst => ⟨rfl, (hc0 hc).1 _ _ ((ok.sym _ hmem s hs).2 hst) ht⟩
          rw [← hre] at hrow
          rw [← (hc0 hc).1 _ _ hleft ht]
          exact u0 rfl t ht hrow
    · have : k = g.prods.length := by omega
      subst this; exact done h' P' c mt' fk so' le hc0 hc1
end
theorem Mat.block {h : DH} {m k w : Nat} {bs : Nat → Nat} {P : Nat → Nat → Bool} (a : Mat h m k w bs P) {i : Nat} (hi : i < k) : bs i < h.n := (a.vec i hi).1
theorem either_ext {h h' : DH} {l : List Nat} (e : Ext (reset h) h') : either (callFoot h h') ⟨some l, .none⟩ = true ∧ either ⟨some l, .none⟩ (callFoot h h') = true := by
  rw [e.foot]; exact ⟨rfl, rfl⟩
theorem GmAt.reset {h : DH} {v : Value} {g : Gm} (a : GmAt h v g) : GmAt (reset h) v g := a
theorem first_ok {h : DH} {v : Value} {g : Gm} {Z : Value → DH → Prop} (ok : GmOk g) (a : GmAt h v g) (K : ∀ h' m bs, Ext h h' → h.n ≤ m → (∀ i, i < g.nts.length → h.n ≤ bs i) → Mat h' m g.nts.length g.toks.length bs (firstF g) → Z (slb m g.nts.length) h') : CP Try.prog 37 [v] h Z := by
  apply R37
  refine a.boxed fun h1 tv nv pv _ q1 a1 e1 => ?_
  have c1 : GC h1 h.n tv nv pv g := ⟨q1, a1⟩
  rw [c1.ld.2.2.2.2, obP_some]
  refine may_ok a1 ok fun h2 e2 => ?_
  have c2 := c1.ext e2
  rw [bnot_bool, obP_some, asB_bool, obP_some]
  simp only [Bool.not_true, bP_false]
  rw [c2.ld.2.2.2.2, obP_some]
  refine nullable_ok ok (GmAt.reset c2.2) fun h3 nb e3 hnb vn => ?_
  have e23 : Ext h2 (lowered h3 h2.low) := Kp.lowered e3
  have vn' : Vec (lowered h3 h2.low) nb g.nts.length (nullF g) := vn
  have hft := fun l => either_ext (l := l) e3
  have c3 := c2.ext e23
  rw [fa_ptr, obP_some, c3.ld.2.2.1, obP_some, c3.len.2.1, obP_some, fa_ptr, obP_some, c3.ld.2.1, obP_some, c3.len.1, obP_some]
  generalize hH4 : lowered h3 h2.low = h4 at e23 vn' c3 ⊢
  refine sets_ok (by have := ok.n.2; omega) (by have := ok.t.2; omega) fun h5 m bs e5 hm hbs mt => ?_
  have e45 : Ext h4 (lowered h5 h4.low) := Kp.lowered e5
  have mt' : Mat (lowered h5 h4.low) m g.nts.length g.toks.length bs (fun _ _ => false) := ⟨mt.hd, mt.vec, mt.inj⟩
  have hm4 : h4.n ≤ m := hm
  have hbs4 : ∀ i, i < g.nts.length → h4.n ≤ bs i := hbs
  generalize lowered h5 h4.low = h6 at e45 mt' ⊢
  rw [al_ok, oh_some, al_ok, oh_some]
  have e7 := Ext.push h6 (.cells [(Value.slice none 0 0)] 64 .exact)
  have q7 : Has (h6.push (.cells [(Value.slice none 0 0)] 64 .exact)) h6.n (.cells [(Value.slice none 0 0)] 64 .exact) := Has.push_self _ _
  have hn7 : (h6.push (.cells [(Value.slice none 0 0)] 64 .exact)).n = h6.n + 1 := rfl
  generalize h6.push (.cells [(Value.slice none 0 0)] 64 .exact) = h7 at e7 q7 hn7 ⊢
  have e8 := Ext.push h7 (.cells [(Value.slice none 0 0)] 65 .exact)
  have q8 : Has (h7.push (.cells [(Value.slice none 0 0)] 65 .exact)) h7.n (.cells [(Value.slice none 0 0)] 65 .exact) := Has.push_self _ _
  have q78 := q7.ext e8
  generalize h7.push (.cells [(Value.slice none 0 0)] 65 .exact) = h8 at e8 q8 q78 ⊢
  refine st_ok (c' := [slb nb g.nts.length]) q78 rfl rfl rfl rfl (by simp) rfl rfl ?_
  have f9 : Kp h8 (h8.upd h6.n (.cells [slb nb g.nts.length] 64 .exact)) (· = h6.n) := Kp.upd _ (.inl rfl)
  have q9 : Has (h8.upd h6.n (.cells [slb nb g.nts.length] 64 .exact)) h6.n (.cells [slb nb g.nts.length] 64 .exact) := q78.upd_self _
  have q89 := q8.kp f9 (by omega)
  generalize h8.upd h6.n (.cells [slb nb g.nts.length] 64 .exact) = h9 at f9 q9 q89 ⊢
  refine st_ok (c' := [slb m g.nts.length]) q89 rfl rfl rfl rfl (by simp) rfl rfl ?_
  have f10 : Kp h9 (h9.upd h7.n (.cells [slb m g.nts.length] 65 .exact)) (· = h7.n) := Kp.upd _ (.inl rfl)
  have q10 : Has (h9.upd h7.n (.cells [slb m g.nts.length] 65 .exact)) h7.n (.cells [slb m g.nts.length] 65 .exact) := q89.upd_self _
  have q9' := q9.kp f10 (by omega)
  generalize h9.upd h7.n (.cells [slb m g.nts.length] 65 .exact) = h10 at f10 q10 q9' ⊢
  have e6 : Ext h6 h10 := (((e7.trans e8).trans' f9 fun x hx => .inr (by omega))).trans' f10 fun x hx => .inr (by have := e7.n; omega)
  have e410 := e45.trans e6
  have v10 := vn'.ext e410
  have m10 := mt'.ext e6
  have c10 := c3.ext e410
  have hnb4 : nb < h4.n := vn'.1
  refine ⟨⟨(hft _).1, (hft _).1, (hft _).1, (hft _).1⟩, ?_⟩
  refine grows_ok (I := fun n h' => ∃ P, cntM g.nts.length g.toks.length P ≤ n ∧ Mat h' m g.nts.length g.toks.length bs P ∧ KS h4.n [] [4] h10 h' ∧ FiOk g P) (D := fun h' => Mat h' m g.nts.length g.toks.length bs (firstF g) ∧ KS h4.n [] [4] h10 h') (fun h' hd => ?_) (fun n h' hi Y y1 y2 => ?_) _ h10 ⟨fun _ _ => false, Nat.le_refl _, m10, KS.refl _ _ _ _, fun i j _ _ hp => by cases hp⟩
  · rw [ld1_has (q10.ks hd.2 (by decide) (by decide)) (o := 0) (v := slb m g.nts.length) rfl, obP_some]
    have e24 : Ext h h4 := (e1.trans e2).trans e23
    refine K h' m bs (e24.trans (((KS.ext e410 : KS h4.n [] [4] h4 h10).trans hd.2).toExt (Nat.le_refl _))) (Nat.le_trans e24.n hm4) (fun i hi => Nat.le_trans e24.n (hbs4 i hi)) hd.1
  · obtain ⟨P, hcnt, hv, hf, so⟩ := hi
    show CP Try.prog 79 [.pointer (some ⟨h.n, 0, none⟩), .pointer (some ⟨h6.n, 0, none⟩), .pointer (some ⟨h7.n, 0, none⟩)] h' Y
    refine first_round (n0 := h4.n) ok (c10.ks hf (by decide)) (q9'.ks hf (by decide) (by decide)) (q10.ks hf (by decide) (by decide)) (Has.old v10 hf (by decide) hnb4) hnb4 hv hbs4 so fun h5 P' c k1 k2 k3 k4 k5 k6 => ?_
    cases c with
    | false =>
      obtain ⟨k7, k8⟩ := k5 rfl
      refine y1 h5 ⟨k1.congr fun i j hi hj => ?_, hf.trans k2⟩
      rw [k7 i j hi hj]
      cases hp : P i j with
      | true => exact (firstF_iff.2 (so i j hi hj hp)).symm
      | false =>
        cases hnf : firstF g i j with
        | false => rfl
        | true => rw [firstP_of k8 hj (firstF_iff.1 hnf)] at hp; cases hp
    | true => exact y2 (cntM g.nts.length g.toks.length P') h5 (Nat.lt_of_lt_of_le (cntM_lt k4 (k6 rfl)) hcnt) ⟨P', Nat.le_refl _, k1, hf.trans k2, k3⟩
end Go.Det
end
/- first.Row, first.Follow. -/
set_option linter.unusedVariables false
set_option linter.unusedSimpArgs false
set_option maxRecDepth 100000
noncomputable section
namespace Go.Det
open Go.Proofs

theorem slS_drop {h : DH} {v : Value} {e : TypeId} {s j : Nat} {rows : List (List Value)} (a : RowsAt h v e s rows) (hj : j ≤ rows.length) : ∃ v', slS e s h v (some (.int .i64 (j : Int))) none = some v' ∧ RowsAt h v' e s (rows.drop j) := by
  rcases a with ⟨rfl, rfl⟩ | ⟨b, o, cap, pre, post, md, rfl, h1, h2, h3, h4⟩
  · simp at hj; subst hj
    exact ⟨.slice none 0 0, rfl, .inl ⟨rfl, rfl⟩⟩
  · refine ⟨.slice (some ⟨b, o + j * s, none⟩) (rows.length - j) (cap - j), ?_, ?_⟩
    · show ob (guard' (sel (Nat.ble j rows.length) (Nat.ble rows.length cap) false) (some (j, rows.length))) (fun b' : Nat × Nat => slAt h e (some ⟨b, o, none⟩) (Nat.mul b'.1 s) (Nat.sub b'.2 b'.1) (Nat.sub cap b'.1)) = _
      rw [show Nat.ble j rows.length = true from Nat.ble_eq_true_of_le hj, show Nat.ble rows.length cap = true from Nat.ble_eq_true_of_le h1]
      show ob (h.row b) (fun r' => guard' (Nat.beq r'.e e) (some (Value.slice (some ⟨b, o + j * s, none⟩) (rows.length - j) (cap - j)))) = _
      rw [h2.row, ob_some]
      show guard' (Nat.beq e e) _ = _
      rw [Nat.beq_refl]; rfl
    · refine .inr ⟨b, o + j * s, cap - j, pre ++ (rows.take j).flatten, post, md, by rw [List.length_drop], by rw [List.length_drop]; omega, ?_, ?_, fun r hr => h4 r (List.mem_of_mem_drop hr)⟩
      · have : pre ++ (rows.take j).flatten ++ (rows.drop j).flatten ++ post = pre ++ rows.flatten ++ post := by
          conv => rhs; rw [← List.take_append_drop j rows, List.flatten_append]
          simp
        rw [this]; exact h2
      · rw [List.length_append, h3, flatten_len fun r hr => h4 r (List.mem_of_mem_take hr), List.length_take, Nat.min_eq_left hj]
theorem Vec.reset {h : DH} {b n : Nat} {p : Nat → Bool} (a : Vec h b n p) : Vec (reset h) b n p := a
theorem row_ok {h : DH} {v rv : Value} {g : Gm} {r : List Sy} {Z : Value → DH → Prop} (ok : GmOk g) (a : GmAt h v g) (hr : RowsAt h rv 90 2 (r.map symCells)) (hrl : r.length < 1000) (hs : ∀ s, s ∈ r → SymOk g s) (K : ∀ h' b, Ext h h' → h.n ≤ b → Vec h' b g.toks.length (rowF (nullF g) (firstF g) r) → Z (.tuple ⟨[slb b g.toks.length, .bool (rowN (nullF g) r)]⟩) h') : CP Try.prog 39 [v, rv] h Z := by
  apply R39
  refine a.boxed fun h1 tv nv pv _ q1 a1 e1 => ?_
  have c1 : GC h1 h.n tv nv pv g := ⟨q1, a1⟩
  rw [c1.ld.2.2.2.2, obP_some]
  refine may_ok a1 ok fun h2 e2 => ?_
  have c2 := c1.ext e2
  have r2 := (hr.ext e1).ext e2
  rw [bnot_bool, obP_some, asB_bool, obP_some]
  simp only [Bool.not_true, bP_false]
  rw [c2.ld.2.2.2.2, obP_some, obP_some]
  refine nullable_ok ok (GmAt.reset c2.2) fun h3 nb e3 hnb vn => ?_
  have e23 : Ext h2 (lowered h3 h2.low) := Kp.lowered e3
  have vn' : Vec (lowered h3 h2.low) nb g.nts.length (nullF g) := vn
  have hft := fun l => either_ext (l := l) e3
  have c3 := c2.ext e23
  have r3 := r2.ext e23
  generalize hH4 : lowered h3 h2.low = h4 at e23 vn' c3 r3 ⊢
  rw [c3.ld.2.2.2.2, obP_some]
  refine first_ok ok (GmAt.reset c3.2) fun h5 m bs e5 hm hbs mt => ?_
  have e45 : Ext h4 (lowered h5 h4.low) := Kp.lowered e5
  have mt' : Mat (lowered h5 h4.low) m g.nts.length g.toks.length bs (firstF g) := ⟨mt.hd, mt.vec, mt.inj⟩
  have hft2 := fun l => either_ext (l := l) e5
  have c5 := c3.ext e45
  have r5 := r3.ext e45
  have v5 := vn'.ext e45
  generalize lowered h5 h4.low = h6 at e45 mt' c5 r5 v5 ⊢
  refine begins_ok (h := reset h6) c5.2 ok.t.2 v5 ⟨mt'.hd, mt'.vec, mt'.inj⟩ r5 hrl hs fun h7 b e7 hb hv => ?_
  have e67 : Ext h6 (lowered h7 h6.low) := Kp.lowered e7
  have hv' : Vec (lowered h7 h6.low) b g.toks.length (rowF (nullF g) (firstF g) r) := hv
  have e06 := ((e1.trans e2).trans e23).trans e45
  rw [show ext1 (.tuple ⟨[slb b g.toks.length, .bool (rowN (nullF g) r)]⟩) 0 = some (slb b g.toks.length) from rfl, obP_some, show ext1 (.tuple ⟨[slb b g.toks.length, .bool (rowN (nullF g) r)]⟩) 1 = some (.bool (rowN (nullF g) r)) from rfl, obP_some]
  exact ⟨⟨(hft _).2, (hft _).1, (hft2 _).2⟩, K _ b (e06.trans e67) (Nat.le_trans e06.n hb) hv'⟩

section
variable {g : Gm} {gb nb nb0 fb ob mf m n0 : Nat} {tv nv pv : Value} {bs bf : Nat → Nat}
def FoOk (g : Gm) (P : Nat → Nat → Bool) : Prop := ∀ i j, i < g.nts.length → j < g.toks.length + 1 → P i j = true → FollowP g i j
/-- Closed at a production, so far. -/
def CA (g : Gm) (P : Nat → Nat → Bool) (p : Pd) (i : Nat) : Prop := ∀ pre post y, p.right = pre ++ ⟨false, y⟩ :: post → pre.length < i → (∀ t, t < g.toks.length → rowF (nullF g) (firstF g) post t = true → P y t = true) ∧ ∀ t, t < g.toks.length + 1 → rowN (nullF g) post = true → P p.left t = true → P y t = true
/-- Where a round stands. -/
structure FS (g : Gm) (h0 h : DH) (m n0 : Nat) (bs : Nat → Nat) (P P' : Nat → Nat → Bool) (c : Bool) (D : Prop) : Prop where
  mt : Mat h m g.nts.length (g.toks.length + 1) bs P'
  ks : KS n0 [] [4] h0 h
  so : FoOk g P'
  le : ∀ i j, i < g.nts.length → j < g.toks.length + 1 → P i j = true → P' i j = true
  c0 : c = false → (∀ i j, i < g.nts.length → j < g.toks.length + 1 → P' i j = P i j) ∧ D
  c1 : c = true → ∃ i j, i < g.nts.length ∧ j < g.toks.length + 1 ∧ P i j = false ∧ P' i j = true
theorem FS.ext {h0 h h' : DH} {P P' : Nat → Nat → Bool} {c : Bool} {D : Prop} (a : FS g h0 h m n0 bs P P' c D) (e : Ext h h') : FS g h0 h' m n0 bs P P' c D := ⟨a.mt.ext e, a.ks.trans (KS.ext e), a.so, a.le, a.c0, a.c1⟩
theorem FS.to {h0 h : DH} {P P' : Nat → Nat → Bool} {c : Bool} {D D' : Prop} (a : FS g h0 h m n0 bs P P' c D) (i : D → D') : FS g h0 h m n0 bs P P' c D' := ⟨a.mt, a.ks, a.so, a.le, fun h => ⟨(a.c0 h).1, i (a.c0 h).2⟩, a.c1⟩
/-- One union into a row. -/
theorem FS.union {h0 h : DH} {P P' : Nat → Nat → Bool} {c : Bool} {D D' : Prop} {y lb w : Nat} {q : Nat → Bool} {Z : Value → DH → Prop} (a : FS g h0 h m n0 bs P P' c D) (ht : g.toks.length ≤ 8) (hbs : ∀ i, i < g.nts.length → n0 ≤ bs i) (hy : y < g.nts.length) (vl : Vec h lb w q) (hw : w ≤ g.toks.length + 1)
    (so : ∀ t, t < w → q t = true → FollowP g y t) (cl : c = false → D → (∀ t, t < w → q t = true → P y t = true) → D')
    (K : ∀ h' P'' gw, KS n0 [] [4] h h' → FS g h0 h' m n0 bs P P'' (c || gw) D' → (gw = false → FS g h0 h' m n0 bs P P' c D' ∧ FS g h0 h' m n0 bs P P' c D) → Z (.bool gw) h') : CP Try.prog 81 [slb (bs y) (g.toks.length + 1), slb lb w] h Z := by
  refine union_ok (a.mt.vec _ hy) vl hw (by omega) fun h4 gw hv4 f4 u0 u1 => ?_
  have mt4 := a.mt.upd hy f4 hv4
  have fk := (a.mt.vec _ hy).ks (hbs _ hy) f4
  have hks : KS n0 [] [4] h0 h4 := a.ks.trans fk
  have so4 : FoOk g (fun x => if x = y then (fun j => P' y j || (decide (j < w) && q j)) else P' x) := by
    intro i j hi hj hp
    by_cases he : i = y
    · subst he
      simp only [if_pos, Bool.or_eq_true, Bool.and_eq_true, decide_eq_true_eq] at hp
      rcases hp with hp | ⟨hj', hp⟩
      · exact a.so _ _ hi hj hp
      · exact so j hj' hp
    · simp only [if_neg he] at hp
      exact a.so i j hi hj hp
  have le4 : ∀ i j, i < g.nts.length → j < g.toks.length + 1 → P i j = true → (if i = y then (fun j => P' y j || (decide (j < w) && q j)) else P' i) j = true := by
    intro i j hi hj hp
    have := a.le i j hi hj hp
    by_cases he : i = y
    · subst he; simp [this]
    · simp only [if_neg he]; exact this
  cases gw with
  | true =>
    refine K h4 _ true fk ⟨mt4, hks, so4, le4, fun h => by simp at h, fun _ => ?_⟩ (fun h => by cases h)
    obtain ⟨j, hj, hj1, hj2⟩ := u1 rfl
    refine ⟨y, j, hy, by omega, ?_, by simp [hj1, hj]⟩
    cases hpp : P y j with
    | false => rfl
    | true => rw [a.le _ _ hy (by omega) hpp] at hj2; cases hj2
  | false =>
    have heq : ∀ i j, i < g.nts.length → j < g.toks.length + 1 → (if i = y then (fun j => P' y j || (decide (j < w) && q j)) else P' i) j = P' i j := by
      intro i j hi hj
      by_cases he : i = y
      · subst he
        simp only [if_pos]
        by_cases hjw : j < w
        · cases hr : q j with
          | false => simp
          | true => rw [u0 rfl j hjw hr]; rfl
        · simp [hjw]
      · simp only [if_neg he]
    have mt5 := mt4.congr heq
    have s1 : FS g h0 h4 m n0 bs P P' c D := ⟨mt5, hks, a.so, a.le, a.c0, a.c1⟩
    have s2 : FS g h0 h4 m n0 bs P P' c D' := ⟨mt5, hks, a.so, a.le, fun hc => ⟨(a.c0 hc).1, cl hc (a.c0 hc).2 fun t ht' hq => by rw [← (a.c0 hc).1 _ _ hy (by omega)]; exact u0 rfl t ht' hq⟩, a.c1⟩
    refine K h4 P' false fk (by rw [Bool.or_false]; exact s2) fun _ => ⟨s2, s1⟩
theorem follow_round {h : DH} {P : Nat → Nat → Bool} {Z : Value → DH → Prop} (ok : GmOk g) (a : GC h gb tv nv pv g) (qn : Has h nb0 (.cells [slb nb g.nts.length] 64 .exact)) (qf : Has h fb (.cells [slb mf g.nts.length] 65 .exact)) (qo : Has h ob (.cells [slb m g.nts.length] 65 .exact)) (vn : Vec h nb g.nts.length (nullF g)) (hnb : nb < n0) (mtf : Mat h mf g.nts.length g.toks.length bf (firstF g)) (hbf : ∀ i, i < g.nts.length → bf i < n0) (mt : Mat h m g.nts.length (g.toks.length + 1) bs P) (hbs : ∀ i, i < g.nts.length → n0 ≤ bs i) (so : FoOk g P)
    (K : ∀ h' P' c, FS g h h' m n0 bs P P' c (∀ pd, pd ∈ g.prods → CA g P pd pd.right.length) → Z (.bool c) h') :
    CP Try.prog 82 [.pointer (some ⟨gb, 0, none⟩), .pointer (some ⟨nb0, 0, none⟩), .pointer (some ⟨fb, 0, none⟩), .pointer (some ⟨ob, 0, none⟩)] h Z := by
  apply R82
  rw [fa_ptr, obP_some, a.ld.2.2.2.1, obP_some, a.len.2.2, obP_some]
  suffices loop : ∀ (q k : Nat) h' P' c, g.prods.length - k ≤ q → k ≤ g.prods.length → FS g h h' m n0 bs P P' c (∀ pd, pd ∈ g.prods.take k → CA g P pd pd.right.length) →
      A82_1 (.pointer (some ⟨gb, 0, none⟩)) (.pointer (some ⟨nb0, 0, none⟩)) (.pointer (some ⟨fb, 0, none⟩)) (.pointer (some ⟨ob, 0, none⟩)) (.bool c) pv (.int .i64 (g.prods.length : Int)) (.int .i64 (k : Int)) h' Z by
    exact loop _ 0 h P false (Nat.le_refl _) (Nat.zero_le _) ⟨mt, KS.refl _ _ _ _, so, fun _ _ _ _ h => h, fun _ => ⟨fun _ _ _ _ => rfl, fun pd hp => by simp at hp⟩, fun h => by cases h⟩
  intro q
  have done : ∀ h' P' c, FS g h h' m n0 bs P P' c (∀ pd, pd ∈ g.prods.take g.prods.length → CA g P pd pd.right.length) →
      A82_1 (.pointer (some ⟨gb, 0, none⟩)) (.pointer (some ⟨nb0, 0, none⟩)) (.pointer (some ⟨fb, 0, none⟩)) (.pointer (some ⟨ob, 0, none⟩)) (.bool c) pv (.int .i64 (g.prods.length : Int)) (.int .i64 (g.prods.length : Int)) h' Z := by
    intro h' P' c hs
    apply R82_1
    simp only [ibin_lss, obP_some, asB_bool, show decide ((g.prods.length : Int) < (g.prods.length : Int)) = false from decide_eq_false (by omega), bP_false]
    rw [List.take_length] at hs
    exact K h' P' c hs
  induction q with
  | zero =>
    intro k h' P' c hm hk
    have : k = g.prods.length := by omega
    subst this; exact done h' P' c
  | succ q ih =>
    intro k h' P' c hm hk hs
    by_cases hlt : k < g.prods.length
    · apply R82_1
      have fk := hs.ks
      have a' := a.ks fk (by decide)
      obtain ⟨w, rv, uv, k1, k2, k3, k4⟩ := a'.prod hlt
      have hmem : g.prods[k] ∈ g.prods := List.getElem_mem hlt
      have htk : ∀ pd, pd ∈ g.prods.take (k + 1) → pd ∈ g.prods.take k ∨ pd = g.prods[k] := by
        intro pd hpd
        rw [List.take_succ_eq_append_getElem hlt] at hpd
        rcases List.mem_append.1 hpd with h | h
        · exact .inl h
        · exact .inr (by simpa using h)
      have hrl := ok.right _ hmem
      have hleft := ok.left _ hmem
      simp only [ibin_lss, obP_some, asB_bool, show decide ((k : Int) < (g.prods.length : Int)) = true from decide_eq_true (by omega), bP_true, k1, k2]
      refine al_st (cs := [.int .i64 (g.prods[k].left : Int), rv, uv]) rfl rfl k4 fun h2 e2 q2 => ?_
      rw [fa_ptr, obP_some, ld1_has q2 (o := 0 + 1) (v := rv) rfl, obP_some, (k3.ext e2).len, obP_some, List.length_map]
      have k32 := k3.ext e2
      have ih' := fun h' P' c => ih (k + 1) h' P' c (by omega) (by omega)
      have hs2 := hs.ext e2
      have hcl := hs2.ks
      generalize h'.n = pb at q2 ⊢
      generalize hpe : g.prods[k] = pd at *
      suffices loop2 : ∀ (r i : Nat) h3 P' c, pd.right.length - i ≤ r → i ≤ pd.right.length → KS n0 [] [4] h2 h3 → FS g h h3 m n0 bs P P' c ((∀ pd, pd ∈ g.prods.take k → CA g P pd pd.right.length) ∧ CA g P pd i) →
          A82_2 (.pointer (some ⟨gb, 0, none⟩)) (.pointer (some ⟨nb0, 0, none⟩)) (.pointer (some ⟨fb, 0, none⟩)) (.pointer (some ⟨ob, 0, none⟩)) (.bool c) (.pointer (some ⟨pb, 0, none⟩)) pv (.int .i64 (g.prods.length : Int)) (.int .i64 (k : Int)) rv (.int .i64 (pd.right.length : Int)) (.int .i64 (i : Int)) h3 Z by
        exact loop2 _ 0 h2 P' c (Nat.le_refl _) (Nat.zero_le _) (KS.refl _ _ _ _) (hs2.to fun hd => ⟨hd, fun pre post y _ hl => by omega⟩)
      intro r
      have done2 : ∀ h3 P' c, KS n0 [] [4] h2 h3 → FS g h h3 m n0 bs P P' c ((∀ pd, pd ∈ g.prods.take k → CA g P pd pd.right.length) ∧ CA g P pd pd.right.length) →
          A82_2 (.pointer (some ⟨gb, 0, none⟩)) (.pointer (some ⟨nb0, 0, none⟩)) (.pointer (some ⟨fb, 0, none⟩)) (.pointer (some ⟨ob, 0, none⟩)) (.bool c) (.pointer (some ⟨pb, 0, none⟩)) pv (.int .i64 (g.prods.length : Int)) (.int .i64 (k : Int)) rv (.int .i64 (pd.right.length : Int)) (.int .i64 (pd.right.length : Int)) h3 Z := by
        intro h3 P' c _ hs3
        apply R82_2
        simp only [ibin_lss, obP_some, asB_bool, show decide ((pd.right.length : Int) < (pd.right.length : Int)) = false from decide_eq_false (by omega), bP_false]
        rw [ibin_inc (by have := ok.p.2; omega), obP_some]
        refine ih' h3 P' c (hs3.to fun hd pd' hpd => ?_)
        rcases htk pd' hpd with h | rfl
        · exact hd.1 pd' h
        · exact hd.2
      clear ih' hs hs2 fk a' k2
      induction r with
      | zero =>
        intro i h3 P' c hm hi
        have : i = pd.right.length := by omega
        subst this; exact done2 h3 P' c
      | succ r ih2 =>
        intro i h3 P' c hm hi hk3 hs3
        by_cases hil : i < pd.right.length
        · apply R82_2
          have hj : (pd.right.map symCells)[i]? = some (symCells pd.right[i]) := by simp [hil]
          have k33 := k32.ks hk3 (by decide) (by decide)
          obtain ⟨b', q', cc, md, j1, j2, j3, j4, j5, j6⟩ := k33.at_ (k := .i64) hj
          have hsm : pd.right[i] ∈ pd.right := List.getElem_mem hil
          have hso := ok.sym _ hmem _ hsm
          have hsplit : pd.right = pd.right.take i ++ pd.right[i] :: pd.right.drop (i + 1) := by
            rw [← List.drop_eq_getElem_cons hil, List.take_append_drop]
          have hca : ∀ (P : Nat → Nat → Bool), CA g P pd i → (∀ y, pd.right[i] = ⟨false, y⟩ → (∀ t, t < g.toks.length → rowF (nullF g) (firstF g) (pd.right.drop (i + 1)) t = true → P y t = true) ∧ ∀ t, t < g.toks.length + 1 → rowN (nullF g) (pd.right.drop (i + 1)) = true → P pd.left t = true → P y t = true) → CA g P pd (i + 1) := by
            intro P h1 h2 pre post y e hl
            rcases Nat.lt_or_eq_of_le (Nat.lt_succ_iff.1 hl) with hl | hl
            · exact h1 pre post y e hl
            · have := List.append_inj (hsplit.symm.trans e) (by rw [List.length_take]; omega)
              simp only [List.cons.injEq] at this
              obtain ⟨_, t1, t2⟩ := this
              subst t2
              exact h2 y t1
          generalize hse : pd.right[i] = s at *
          generalize hpo : pd.right.drop (i + 1) = post at *
          simp only [ibin_lss, obP_some, asB_bool, show decide ((i : Int) < (pd.right.length : Int)) = true from decide_eq_true (by omega), bP_true, j1]
          refine obP_of (ldN_has j3 j4) ?_
          have fk3 := hs3.ks
          refine al_st (cs := symCells s) rfl rfl rfl fun h4 e4 q4 => ?_
          have p0 := ld1_has q4 (o := 0 + 0) (v := .bool s.tok) rfl
          have hs4 := hs3.ext e4
          have hk4 : KS n0 [] [4] h2 h4 := hk3.trans (KS.ext e4)
          rw [fa_ptr, obP_some, p0, obP_some, asB_bool, obP_some]
          cases hst : s.tok with
          | true =>
            rw [bP_true, ibin_inc (by omega), obP_some]
            refine ih2 (i + 1) h4 P' c (by omega) hil hk4 (hs4.to fun hd => ⟨hd.1, hca _ hd.2 fun y hy => ?_⟩)
            rw [hy] at hst; cases hst
          | false =>
            rw [bP_false]
            have hat := hso.2 hst
            have hsy : s = ⟨false, s.at_⟩ := by rw [← hst]
            have fk4 := hs4.ks
            have a4 := a.ks fk4 (by decide)
            have qn4 := qn.ks fk4 (by decide) (by decide)
            have qf4 := qf.ks fk4 (by decide) (by decide)
            have qo4 := qo.ks fk4 (by decide) (by decide)
            have vn4 : Vec h4 nb g.nts.length (nullF g) := Has.old vn fk4 (by decide) hnb
            have mf4 := mtf.old fk4 (by decide) (by decide) (by decide) hbf
            have q24 := q2.ks hk4 (by decide) (by decide)
            obtain ⟨rv', l1, l2⟩ := slS_drop (k32.ks hk4 (by decide) (by decide)) (j := i + 1) (by rw [List.length_map]; omega)
            rw [← List.map_drop, hpo] at l2
            rw [a4.ld.2.2.2.2, obP_some, ld1_has qn4 (o := 0) rfl, obP_some, ld1_has qf4 (o := 0) rfl, obP_some, fa_ptr, obP_some, ld1_has q24 (o := 0 + 1) rfl, obP_some, ibin_inc (by omega), obP_some, l1, obP_some]
            have hpos : ∀ s, s ∈ post → s ∈ pd.right := fun x hx => List.mem_of_mem_drop (hpo ▸ hx)
            have hpl : post.length ≤ 5 := by rw [← hpo, List.length_drop]; omega
            refine begins_ok a4.2 ok.t.2 vn4 mf4 l2 (by omega) (fun s hs => ok.sym _ hmem s (hpos s hs)) fun h5 lb e5 hlb hv5 => ?_
            have hs5 := hs4.ext e5
            have hk5 : KS n0 [] [4] h2 h5 := hk4.trans (KS.ext e5)
            rw [show ext1 (.tuple ⟨[slb lb g.toks.length, .bool (rowN (nullF g) post)]⟩) 0 = some (slb lb g.toks.length) from rfl, obP_some, show ext1 (.tuple ⟨[slb lb g.toks.length, .bool (rowN (nullF g) post)]⟩) 1 = some (.bool (rowN (nullF g) post)) from rfl, obP_some, ld1_has (qo4.ext e5) (o := 0) rfl, obP_some, fa_ptr, obP_some, ld1_has (q4.ext e5) (o := 0 + 1) (v := .int .i64 (s.at_ : Int)) rfl, obP_some, iaS_slb hat, obP_some, hs5.mt.row hat, obP_some]
            refine hs5.union (D' := ((∀ pd, pd ∈ g.prods.take k → CA g P pd pd.right.length) ∧ CA g P pd i) ∧ ∀ t, t < g.toks.length → rowF (nullF g) (firstF g) post t = true → P s.at_ t = true) ok.t.2 hbs hat hv5 (by omega) (fun t ht hq => .next pd hmem _ post s.at_ t (hsplit.trans (by rw [hsy])) ht hq) (fun _ hd hx => ⟨hd, hx⟩) fun h6 P6 gw f6 hs6 hg6 => ?_
            have hk6 : KS n0 [] [4] h2 h6 := hk5.trans f6
            rw [gotB_false, obP_some]
            cases gw with
            | true =>
              simp only [Bool.not_true, sel_false, gotB_undef, obP_some, g1_false, g4_false, pk_bool, sel_true, asB_bool, bP_true]
              rw [Bool.or_true] at hs6
              exact ih2 (i + 1) h6 P6 true (by omega) hil hk6 ⟨hs6.mt, hs6.ks, hs6.so, hs6.le, (fun h => by cases h), hs6.c1⟩
            | false =>
              simp only [Bool.not_false, sel_true, gotB_true, obP_some]
              rw [Bool.or_false] at hs6
              cases hno : rowN (nullF g) post with
              | false =>
                simp only [g1_false, g4_false, g1_true, pk_bool, sel_false, obP_some, asB_bool, bP_false]
                refine ih2 (i + 1) h6 P6 c (by omega) hil hk6 (hs6.to fun hd => ⟨hd.1.1, hca _ hd.1.2 fun y hy => ?_⟩)
                rw [hy] at hd
                exact ⟨hd.2, fun t _ h => by rw [hno] at h; cases h⟩
              | true =>
                have q26 := q2.ks hk6 (by decide) (by decide)
                have qo6 := (qo4.ext e5).ks f6 (by decide) (by decide)
                have q46 := (q4.ext e5).ks f6 (by decide) (by decide)
                simp only [g1_true, fa_ptr, obP_some, ld1_has qo6 (o := 0) rfl, ld1_has q46 (o := 0 + 1) (v := .int .i64 (s.at_ : Int)) rfl, ld1_has q26 (o := 0 + 0) (v := .int .i64 (pd.left : Int)) rfl, iaS_slb hat, iaS_slb hleft, hs6.mt.row hat, hs6.mt.row hleft, g4_true]
                refine hs6.union (D' := (∀ pd, pd ∈ g.prods.take k → CA g P pd pd.right.length) ∧ CA g P pd (i + 1)) ok.t.2 hbs hat (hs6.mt.vec _ hleft) (Nat.le_refl _) (fun t ht hq => .last pd hmem _ post s.at_ t (hsplit.trans (by rw [hsy])) hno (hs6.so _ _ hleft ht hq)) (fun hc hd hx => ⟨hd.1.1, hca _ hd.1.2 fun y hy => ?_⟩) fun h7 P7 gw f7 hs7 hg7 => ?_
                · rw [hy] at hd hx
                  exact ⟨hd.2, fun t ht _ hp => hx t ht (by rw [(hs6.c0 hc).1 _ _ hleft ht]; exact hp)⟩
                · have hk7 : KS n0 [] [4] h2 h7 := hk6.trans f7
                  simp only [pk_bool, sel_true, sel_false, obP_some, asB_bool]
                  cases gw with
                  | true =>
                    rw [bP_true]
                    rw [Bool.or_true] at hs7
                    exact ih2 (i + 1) h7 P7 true (by omega) hil hk7 hs7
                  | false =>
                    rw [bP_false]
                    rw [Bool.or_false] at hs7
                    exact ih2 (i + 1) h7 P7 c (by omega) hil hk7 hs7
        · have : i = pd.right.length := by omega
          subst this; exact done2 h3 P' c hk3 hs3
    · have : k = g.prods.length := by omega
      subst this; exact done h' P' c hs
end
end Go.Det
end
/- first.Follow. -/
set_option linter.unusedVariables false
set_option linter.unusedSimpArgs false
set_option maxRecDepth 100000
noncomputable section
namespace Go.Det
open Go.Proofs

theorem ClO.of {g : Gm} {P : Nat → Nat → Bool} (h0 : P 0 g.toks.length = true) (h : ∀ pd, pd ∈ g.prods → CA g P pd pd.right.length) : ClO g P := by
  refine ⟨h0, fun p hp pre post y t e ht hh => ?_, fun p hp pre post y t e ht hn hh => ?_⟩
  · exact (h p hp pre post y e (by rw [e, List.length_append, List.length_cons]; omega)).1 t ht hh
  · exact (h p hp pre post y e (by rw [e, List.length_append, List.length_cons]; omega)).2 t ht hn hh
theorem follow_ok {h : DH} {v : Value} {g : Gm} {Z : Value → DH → Prop} (ok : GmOk g) (a : GmAt h v g) (K : ∀ h' m bs, Ext h h' → h.n ≤ m → (∀ i, i < g.nts.length → h.n ≤ bs i) → Mat h' m g.nts.length (g.toks.length + 1) bs (followF g) → Z (slb m g.nts.length) h') : CP Try.prog 38 [v] h Z := by
  apply R38
  refine a.boxed fun h1 tv nv pv _ q1 a1 e1 => ?_
  have c1 : GC h1 h.n tv nv pv g := ⟨q1, a1⟩
  rw [c1.ld.2.2.2.2, obP_some]
  refine may_ok a1 ok fun h2 e2 => ?_
  have c2 := c1.ext e2
  rw [bnot_bool, obP_some, asB_bool, obP_some]
  simp only [Bool.not_true, bP_false]
  rw [c2.ld.2.2.2.2, obP_some]
  refine nullable_ok ok (GmAt.reset c2.2) fun h3 nb e3 hnb vn => ?_
  have e23 : Ext h2 (lowered h3 h2.low) := Kp.lowered e3
  have vn' : Vec (lowered h3 h2.low) nb g.nts.length (nullF g) := vn
  have hft := fun l => either_ext (l := l) e3
  have c3 := c2.ext e23
  generalize hH4 : lowered h3 h2.low = h4 at e23 vn' c3 ⊢
  rw [c3.ld.2.2.2.2, obP_some]
  refine first_ok ok (GmAt.reset c3.2) fun h5 mf bf e5 hmf hbf mtf => ?_
  have e45 : Ext h4 (lowered h5 h4.low) := Kp.lowered e5
  have mtf' : Mat (lowered h5 h4.low) mf g.nts.length g.toks.length bf (firstF g) := ⟨mtf.hd, mtf.vec, mtf.inj⟩
  have hft2 := fun l => either_ext (l := l) e5
  have c5 := c3.ext e45
  have v5 := vn'.ext e45
  generalize lowered h5 h4.low = h6 at e45 mtf' c5 v5 ⊢
  have htl := ok.t.2
  have hnl := ok.n
  rw [fa_ptr, obP_some, c5.ld.2.2.1, obP_some, c5.len.2.1, obP_some, fa_ptr, obP_some, c5.ld.2.1, obP_some, c5.len.1, obP_some, ibin_inc (by omega), obP_some]
  refine sets_ok (by omega) (by omega) fun h7 m bs e7 hm hbs mt => ?_
  have e67 : Ext h6 (lowered h7 h6.low) := Kp.lowered e7
  have mt' : Mat (lowered h7 h6.low) m g.nts.length (g.toks.length + 1) bs (fun _ _ => false) := ⟨mt.hd, mt.vec, mt.inj⟩
  have hm6 : h6.n ≤ m := hm
  have hbs6 : ∀ i, i < g.nts.length → h6.n ≤ bs i := hbs
  generalize lowered h7 h6.low = h8 at e67 mt' ⊢
  rw [al_ok, oh_some, al_ok, oh_some, al_ok, oh_some]
  have e9 := Ext.push h8 (.cells [(Value.slice none 0 0)] 64 .exact)
  have q9 : Has (h8.push (.cells [(Value.slice none 0 0)] 64 .exact)) h8.n (.cells [(Value.slice none 0 0)] 64 .exact) := Has.push_self _ _
  have hn9 : (h8.push (.cells [(Value.slice none 0 0)] 64 .exact)).n = h8.n + 1 := rfl
  generalize h8.push (.cells [(Value.slice none 0 0)] 64 .exact) = h9 at e9 q9 hn9 ⊢
  have e10 := Ext.push h9 (.cells [(Value.slice none 0 0)] 65 .exact)
  have q10 : Has (h9.push (.cells [(Value.slice none 0 0)] 65 .exact)) h9.n (.cells [(Value.slice none 0 0)] 65 .exact) := Has.push_self _ _
  have hn10 : (h9.push (.cells [(Value.slice none 0 0)] 65 .exact)).n = h9.n + 1 := rfl
  have q9a := q9.ext e10
  generalize h9.push (.cells [(Value.slice none 0 0)] 65 .exact) = h10 at e10 q10 q9a hn10 ⊢
  have e11 := Ext.push h10 (.cells [(Value.slice none 0 0)] 65 .exact)
  have q11 : Has (h10.push (.cells [(Value.slice none 0 0)] 65 .exact)) h10.n (.cells [(Value.slice none 0 0)] 65 .exact) := Has.push_self _ _
  have q9b := q9a.ext e11
  have q10b := q10.ext e11
  generalize h10.push (.cells [(Value.slice none 0 0)] 65 .exact) = h11 at e11 q11 q9b q10b ⊢
  refine st_ok (c' := [slb nb g.nts.length]) q9b rfl rfl rfl rfl (by simp) rfl rfl ?_
  have f12 : Kp h11 (h11.upd h8.n (.cells [slb nb g.nts.length] 64 .exact)) (· = h8.n) := Kp.upd _ (.inl rfl)
  have q12 : Has (h11.upd h8.n (.cells [slb nb g.nts.length] 64 .exact)) h8.n (.cells [slb nb g.nts.length] 64 .exact) := q9b.upd_self _
  have q10c := q10b.kp f12 (by omega)
  have q11c := q11.kp f12 (by omega)
  generalize h11.upd h8.n (.cells [slb nb g.nts.length] 64 .exact) = h12 at f12 q12 q10c q11c ⊢
  refine st_ok (c' := [slb mf g.nts.length]) q10c rfl rfl rfl rfl (by simp) rfl rfl ?_
  have f13 : Kp h12 (h12.upd h9.n (.cells [slb mf g.nts.length] 65 .exact)) (· = h9.n) := Kp.upd _ (.inl rfl)
  have q13 : Has (h12.upd h9.n (.cells [slb mf g.nts.length] 65 .exact)) h9.n (.cells [slb mf g.nts.length] 65 .exact) := q10c.upd_self _
  have q12d := q12.kp f13 (by omega)
  have q11d := q11c.kp f13 (by omega)
  generalize h12.upd h9.n (.cells [slb mf g.nts.length] 65 .exact) = h13 at f13 q13 q12d q11d ⊢
  refine st_ok (c' := [slb m g.nts.length]) q11d rfl rfl rfl rfl (by simp) rfl rfl ?_
  have f14 : Kp h13 (h13.upd h10.n (.cells [slb m g.nts.length] 65 .exact)) (· = h10.n) := Kp.upd _ (.inl rfl)
  have q14 : Has (h13.upd h10.n (.cells [slb m g.nts.length] 65 .exact)) h10.n (.cells [slb m g.nts.length] 65 .exact) := q11d.upd_self _
  have q12e := q12d.kp f14 (by omega)
  have q13e := q13.kp f14 (by omega)
  generalize h13.upd h10.n (.cells [slb m g.nts.length] 65 .exact) = h14 at f14 q14 q12e q13e ⊢
  have e814 : Ext h8 h14 := ((((e9.trans e10).trans e11).trans' f12 fun x hx => .inr (by omega)).trans' f13 fun x hx => .inr (by omega)).trans' f14 fun x hx => .inr (by omega)
  have e614 := e67.trans e814
  have m14 := mt'.ext e814
  have v14 := v5.ext e614
  have mf14 := mtf'.ext e614
  have c14 := c5.ext e614
  have hnb6 : nb < h6.n := v5.1
  have hbf6 : ∀ i, i < g.nts.length → bf i < h6.n := fun i hi => mtf'.block hi
  refine ⟨⟨(hft _).1, (hft _).1, (hft2 _).1, (hft _).1, (hft2 _).1, (hft _).1, (hft2 _).1, (hft _).1, (hft2 _).1⟩, ?_⟩
  have h0n : 0 < g.nts.length := hnl.1
  rw [ld1_has q14 (o := 0) rfl, obP_some, show (Value.int .i64 0) = .int .i64 ((0 : Nat) : Int) from rfl, iaS_slb h0n, obP_some, m14.row h0n, obP_some, obP_some, c14.ld.2.1, obP_some, c14.len.1, obP_some, iaS_slb (by omega), obP_some]
  refine (m14.vec 0 h0n).st (by omega) fun h15 v15 f15 => ?_
  have m15 := m14.upd h0n f15 v15
  have k15 : KS h6.n [] [4] h14 h15 := (m14.vec 0 h0n).ks (hbs6 0 h0n) f15
  refine grows_ok (I := fun n h' => ∃ P, cntM g.nts.length (g.toks.length + 1) P ≤ n ∧ Mat h' m g.nts.length (g.toks.length + 1) bs P ∧ KS h6.n [] [4] h14 h' ∧ FoOk g P ∧ P 0 g.toks.length = true) (D := fun h' => Mat h' m g.nts.length (g.toks.length + 1) bs (followF g) ∧ KS h6.n [] [4] h14 h') (fun h' hd => ?_) (fun n h' hi Y y1 y2 => ?_) _ h15 ⟨_, Nat.le_refl _, m15, k15, fun i j _ _ hp => ?_, by simp⟩
  · rw [ld1_has (q14.ks hd.2 (by decide) (by decide)) (o := 0) (v := slb m g.nts.length) rfl, obP_some]
    have e26 : Ext h h6 := ((e1.trans e2).trans e23).trans e45
    exact K h' m bs (e26.trans (((KS.ext e614 : KS h6.n [] [4] h6 h14).trans hd.2).toExt (Nat.le_refl _))) (Nat.le_trans e26.n hm6) (fun i hi => Nat.le_trans e26.n (hbs6 i hi)) hd.1
  · obtain ⟨P, hcnt, hv, hf, so, hp0⟩ := hi
    show CP Try.prog 82 [.pointer (some ⟨h.n, 0, none⟩), .pointer (some ⟨h8.n, 0, none⟩), .pointer (some ⟨h9.n, 0, none⟩), .pointer (some ⟨h10.n, 0, none⟩)] h' Y
    refine follow_round (n0 := h6.n) ok (c14.ks hf (by decide)) (q12e.ks hf (by decide) (by decide)) (q13e.ks hf (by decide) (by decide)) (q14.ks hf (by decide) (by decide)) (Has.old v14 hf (by decide) hnb6) hnb6 (mf14.old hf (by decide) (by decide) (by decide) hbf6) hbf6 hv hbs6 so fun h5 P' c hs => ?_
    cases c with
    | false =>
      obtain ⟨k7, k8⟩ := hs.c0 rfl
      refine y1 h5 ⟨hs.mt.congr fun i j hi hj => ?_, hf.trans hs.ks⟩
      rw [k7 i j hi hj]
      cases hp : P i j with
      | true => exact (followF_iff.2 (so i j hi hj hp)).symm
      | false =>
        cases hnf : followF g i j with
        | false => rfl
        | true => rw [followP_of (.of hp0 k8) hj (followF_iff.1 hnf)] at hp; cases hp
    | true => exact y2 (cntM g.nts.length (g.toks.length + 1) P') h5 (Nat.lt_of_lt_of_le (cntM_lt hs.le (hs.c1 rfl)) hcnt) ⟨P', Nat.le_refl _, hs.mt, hf.trans hs.ks, hs.so, hs.le _ _ h0n (by omega) hp0⟩
  · by_cases he : i = 0
    · subst he
      simp only [if_pos, Bool.or_false, beq_iff_eq] at hp
      subst hp; exact .eof
    · simp only [if_neg he] at hp; cases hp
end Go.Det
end
/- Made grammars may be. -/
set_option linter.unusedVariables false
set_option linter.unusedSimpArgs false
set_option maxRecDepth 100000
noncomputable section
namespace Go.Det
open Go.Proofs

theorem ntNames {g : Gm} (hm : Made g) : g.nts.map Ntm.name = (List.range g.nts.length).map ntName := by
  refine List.ext_getElem? fun i => ?_
  by_cases hi : i < g.nts.length
  · rw [List.getElem?_map, List.getElem?_map, List.getElem?_range hi, List.getElem?_eq_getElem hi]
    simp only [Option.map_some, Option.some.injEq]
    exact (hm.n.2.2 i _ (List.getElem?_eq_getElem hi)).1
  · rw [List.getElem?_eq_none (by simpa using hi), List.getElem?_eq_none (by simpa using hi)]
def namesB (l : List ByteArray) : Bool := decide (l.Nodup) && l.all fun s => nameB (txt' s)
theorem namesB_iff {l : List ByteArray} (h : namesB l = true) : l.Nodup ∧ ∀ s, s ∈ l → nameB (txt' s) = true := by
  unfold namesB at h
  rw [Bool.and_eq_true, decide_eq_true_eq, List.all_eq_true] at h
  exact h
theorem names_made : ∀ k n, k < 4 → n < 5 → namesB ((List.range k).map (fun i => (tokAt i).name) ++ (List.range n).map ntName) = true := by
  have : (List.range 4).all (fun k => (List.range 5).all fun n => namesB ((List.range k).map (fun i => (tokAt i).name) ++ (List.range n).map ntName)) = true := by kernel_rfl
  intro k n hk hn
  rw [List.all_eq_true] at this
  have := this k (List.mem_range.2 hk)
  rw [List.all_eq_true] at this
  exact this n (List.mem_range.2 hn)
theorem attrs_made : ∀ a b, a < 3 → b < 3 → namesB (inhAll.take a ++ synAll.take b) = true := by
  have : (List.range 3).all (fun k => (List.range 3).all fun n => namesB (inhAll.take k ++ synAll.take n)) = true := by kernel_rfl
  intro k n hk hn
  rw [List.all_eq_true] at this
  have := this k (List.mem_range.2 hk)
  rw [List.all_eq_true] at this
  exact this n (List.mem_range.2 hn)
theorem take_small {α : Type} (l : List α) (k : Nat) (h : l.length = 2) : ∃ a, a < 3 ∧ l.take k = l.take a := by
  by_cases hk : k < 3
  · exact ⟨k, hk, rfl⟩
  · exact ⟨2, by omega, by rw [List.take_of_length_le (by omega), List.take_of_length_le (by omega)]⟩
theorem symOk_made {g : Gm} (hm : Made g) {s : Sy} (h : SyOk g.toks.length g.nts.length s) : SymOk g s := by
  refine ⟨fun ht => ?_, h.2⟩
  have := h.1 ht
  obtain ⟨k, k0, k3, hk⟩ := hm.t
  have hl : g.toks.length = k := by rw [hk]; simp
  refine ⟨tokAt s.at_, ?_, rfl⟩
  rw [hk, List.getElem?_map, List.getElem?_range (by omega)]; rfl
theorem gmOk_of {g : Gm} (ps : List Pd) (hm : Made g) (h1 : 1 ≤ ps.length ∧ ps.length ≤ 16) (h2 : ∀ p, p ∈ ps → p.left < g.nts.length ∧ p.right.length ≤ 5 ∧ ∀ s, s ∈ p.right → SyOk g.toks.length g.nts.length s) : GmOk ⟨g.toks, g.nts, ps⟩ := by
  obtain ⟨k, k0, k3, hk⟩ := hm.t
  have hl : g.toks.length = k := by rw [hk]; simp
  have hn := hm.n
  have htn : g.toks.map Tk.name = (List.range k).map (fun i => (tokAt i).name) := by rw [hk, List.map_map]; rfl
  have hnames := namesB_iff (names_made k g.nts.length (by omega) (by omega))
  rw [← htn, ← ntNames hm] at hnames
  refine ⟨⟨by show 1 ≤ g.toks.length; omega, by show g.toks.length ≤ 8; omega⟩, ⟨hn.1, by show g.nts.length ≤ 8; omega⟩, h1, hnames.1, hnames.2, fun t ht => ?_, fun p hp => (h2 p hp).1, fun p hp => (h2 p hp).2.1, fun p hp s hs => ?_⟩
  · obtain ⟨i, hi⟩ := List.getElem?_of_mem ht
    obtain ⟨_, ⟨a, ha⟩, b, hb⟩ := hn.2.2 i t hi
    obtain ⟨a', ha1, ha2⟩ := take_small inhAll a rfl
    obtain ⟨b', hb1, hb2⟩ := take_small synAll b rfl
    rw [ha, hb, ha2, hb2]
    have := namesB_iff (attrs_made a' b' ha1 hb1)
    refine ⟨?_, this.1, this.2⟩
    rw [List.length_append, List.length_take, List.length_take]
    have e1 : inhAll.length = 2 := rfl
    have e2 : synAll.length = 2 := rfl
    omega
  · have := symOk_made hm ((h2 p hp).2.2 s hs)
    exact this
theorem gmOk_made {g : Gm} (hm : Made g) : GmOk g := gmOk_of g.prods hm ⟨hm.p.1, by have := hm.p.2.1; omega⟩ fun p hp => ⟨(hm.p.2.2 p hp).1, by have := (hm.p.2.2 p hp).2.1; omega, (hm.p.2.2 p hp).2.2⟩
theorem neq_bool (xo yo : Operand) (a b : Bool) : dbin Try.prog .neq 4 xo yo (.bool a) (.bool b) = some (.bool (!(a == b))) := by
  cases a <;> cases b <;> kernel_rfl
theorem either_wr {gb : Nat} {v : Value} {rd : List Nat} {n0 e s : Nat} {rows : List (List Value)} {h : DH} (a : Grow h v e s rows n0) (hn : gb < n0) : either ⟨some [gb], .none⟩ (wrOf (blockOf v) rd) = true ∧ either (wrOf (blockOf v) rd) ⟨some [gb], .none⟩ = true := by
  rcases a with ⟨rfl, rfl⟩ | ⟨b, md, rfl, h1, h2, h3, h4⟩
  · exact ⟨rfl, rfl⟩
  · have hne : Nat.beq gb b = false := by
      cases hh : Nat.beq gb b with
      | false => rfl
      | true => have := Nat.eq_of_beq_eq_true hh; omega
    have hm : meets (some [gb]) (.one b) = false := by
      show (Nat.beq gb b || false) = false
      rw [hne]; rfl
    refine ⟨?_, ?_⟩
    · show (!meets (some [gb]) (.one b) && !meets (some rd) .none && !clash .none (.one b)) = true
      rw [hm]; rfl
    · show (!meets (some rd) .none && !meets (some [gb]) (.one b) && !clash (.one b) .none) = true
      rw [hm]; rfl
end Go.Det
end
/- FirstRow, walked. -/
set_option linter.unusedVariables false
set_option linter.unusedSimpArgs false
set_option maxRecDepth 100000
noncomputable section
namespace Go.Det
open Go.Proofs

theorem cvI_w64 {n : Nat} (h : n < 256) : cvI .i64 (.int .u8 (n : Int)) = some (.int .i64 (n : Int)) := by
  show some (Value.int .i64 (IntKind.wrap .i64 (n : Int))) = _
  rw [IntWalk.i64_in _ (by omega)]
theorem GC.prodF {h : DH} {gb k : Nat} {tv nv pv : Value} {g : Gm} (a : GC h gb tv nv pv g) (hk : k < g.prods.length) :
    ∃ b q rv, iaS 3 pv (.int .i64 (k : Int)) = some (.pointer (some ⟨b, q, none⟩)) ∧ ld1 h (.pointer (some ⟨b, q + 0, none⟩)) = some (.int .i64 (g.prods[k].left : Int)) ∧ ld1 h (.pointer (some ⟨b, q + 1, none⟩)) = some rv ∧ RowsAt h rv 90 2 (g.prods[k].right.map symCells) := by
  obtain ⟨_, _, pr, p3, p3'⟩ := a.2.parts
  obtain ⟨row, hj, rv, uv, rfl, hr, hu⟩ := p3'.get (List.getElem?_eq_getElem hk)
  obtain ⟨b, q, c, md, k1, k2, k3, k4, k5, k6⟩ := p3.at_ (k := .i64) hj
  exact ⟨b, q, rv, k1, ld1_has k3 ((k6 0 (by omega)).trans rfl), ld1_has k3 ((k6 1 (by omega)).trans rfl), hr⟩
theorem ext1_0 (a b : Value) : ext1 (.tuple ⟨[a, b]⟩) 0 = some a := rfl
theorem ext1_1 (a b : Value) : ext1 (.tuple ⟨[a, b]⟩) 1 = some b := rfl
theorem firstRow_walk {h : DH} {lv : Value} {l : List Nat} {a b : Nat} (hb : CP Try.prog 31 [] h fun v h' => v = .bool true ∧ Ext h h') (ra : RowsAt h lv 5 1 (byteRows l)) (hl : ∀ b, b ∈ l → b < 256) (ha : a < 256) (hbb : b < 256) : CP Try.prog 12 [lv, .int .u8 (a : Int), .int .u8 (b : Int)] h fun v _ => v = .bool true := by
  apply R12
  refine hb.mono ?_
  rintro v h2 ⟨rfl, e⟩
  have a2 := ra.ext e
  have hlen : (byteRows l).length = l.length := by simp [byteRows]
  simp only [bnot_bool, obP_some, asB_bool, Bool.not_true, bP_false, a2.len, hlen, ibin_gtr]
  by_cases hbig : 150 < l.length
  · rw [show decide ((150 : Int) < (l.length : Int)) = true from decide_eq_true (by omega)]
    exact trivial
  · rw [show decide ((150 : Int) < (l.length : Int)) = false from decide_eq_false (by omega), bP_false]
    refine made_ok a2 (by omega) hl fun h3 hp e3 => ?_
    refine grammar_ok hp fun v g n' h4 ga hm hp' ks => ?_
    obtain ⟨tv, nv, pv, rfl, o1, o2, o3⟩ := gmBox ga
    have ok := gmOk_made hm
    refine al_st (cs := [tv, nv, pv]) rfl rfl (by show sel (okCell tv) (sel (okCell nv) (sel (okCell pv) true false) false) false = true; rw [o1, o2, o3]; rfl) fun h5 e5 q5 => ?_
    have c5 : GC h5 h4.n tv nv pv g := ⟨q5, ga.ext e5⟩
    generalize h4.n = gb at q5 c5 ⊢
    have hpl := hm.p
    have hxi : a % g.prods.length < g.prods.length := Nat.mod_lt _ hpl.1
    have hyi : b % g.prods.length < g.prods.length := Nat.mod_lt _ hpl.1
    obtain ⟨b1, q1, rx, x1, x2, x3, x4⟩ := c5.prodF (k := a % g.prods.length) hxi
    obtain ⟨b2, q2, ry, y1, y2, y3, y4⟩ := c5.prodF (k := b % g.prods.length) hyi
    have hmx := List.getElem_mem hxi
    have hmy := List.getElem_mem hyi
    generalize g.prods[a % g.prods.length]'hxi = px at *
    generalize g.prods[b % g.prods.length]'hyi = py at *
    have hxl := (hpl.2.2 px hmx).2.1
    have hyl := (hpl.2.2 py hmy).2.1
    simp only [fa_ptr, obP_some, c5.ld.2.2.2.1, cvI_w64 ha, cvI_w64 hbb, c5.len.2.2, idiv_rem hpl.1, x1, x3, y1, y3, c5.ld.2.2.2.2]
    refine row_ok ok c5.2 x4 (by omega) (ok.sym px hmx) fun h6 bf e6 hbf vf => ?_
    have c6 := c5.ext e6
    rw [ext1_0, obP_some, ext1_1, obP_some, c6.ld.2.2.2.2, obP_some]
    refine row_ok ok c6.2 (y4.ext e6) (by omega) (ok.sym py hmy) fun h7 bh e7 hbh vh => ?_
    have c7 := c6.ext e7
    rw [ext1_0, obP_some, ext1_1, obP_some, c7.ld.2.2.2.2, obP_some]
    refine bldSl_ok (cs := []) rfl rfl rfl ?_
    have e8 := Ext.push h7 (.cells [] 90 .exact)
    have g8 : Grow (h7.push (.cells [] 90 .exact)) (.slice (some ⟨h7.n, 0, none⟩) 0 0) 90 2 [] h7.n := .inr ⟨h7.n, .exact, rfl, Nat.le_refl _, Has.push_self _ _, rfl, fun r hr => by cases hr⟩
    have hn8 : h7.n ≤ (h7.push (.cells [] 90 .exact)).n := e8.n
    have hgb : gb < h7.n := c7.1.1
    generalize hsl8 : (Value.slice (some ⟨h7.n, 0, none⟩) 0 0) = s8 at g8 ⊢
    generalize h7.push (.cells [] 90 .exact) = h8 at e8 g8 hn8 ⊢
    have xr8 := ((x4.ext e6).ext e7).ext e8
    have yr8 := ((y4.ext e6).ext e7).ext e8
    refine appS_grow g8 hn8 xr8.appended (fun r hr => by obtain ⟨s, _, rfl⟩ := List.mem_map.1 hr; rfl) (by rw [lall_eq, List.all_eq_true]; intro v hv; obtain ⟨r, hr, hv⟩ := List.mem_flatten.1 hv; obtain ⟨s, _, rfl⟩ := List.mem_map.1 hr; simp [symCells] at hv; rcases hv with rfl | rfl <;> rfl) (room_ok (by simp; omega) (by simp; omega) (by omega)) fun s9 h9 g9 f9 hb9 => ?_
    have k9 : KS h7.n [] [90] h8 h9 := KS.grow g8 f9 (by simp)
    have e79 : Ext h7 h9 := ((KS.ext e8 : KS h7.n [] [90] h7 h8).trans k9).toExt (Nat.le_refl _)
    have yr9 := (y4.ext (e6.trans e7)).ext e79
    refine appS_grow g9 e79.n yr9.appended (fun r hr => by obtain ⟨s, _, rfl⟩ := List.mem_map.1 hr; rfl) (by rw [lall_eq, List.all_eq_true]; intro v hv; obtain ⟨r, hr, hv⟩ := List.mem_flatten.1 hv; obtain ⟨s, _, rfl⟩ := List.mem_map.1 hr; simp [symCells] at hv; rcases hv with rfl | rfl <;> rfl) (room_ok (by simp; omega) (by simp; omega) (by omega)) fun s10 h10 g10 f10 hb10 => ?_
    have k10 : KS h7.n [] [90] h9 h10 := KS.grow g9 f10 (by simp)
    have e710 : Ext h7 h10 := ((KS.ext e79 : KS h7.n [] [90] h7 h9).trans k10).toExt (Nat.le_refl _)
    have c10 := c7.ext e710
    have z10 : RowsAt h10 s10 90 2 ((px.right ++ py.right).map symCells) := by rw [List.map_append]; exact g10.rows
    refine row_ok (h := reset h10) ok c10.2 z10 (by rw [List.length_append]; omega) (fun s hs => (List.mem_append.1 hs).elim (ok.sym px hmx s) (ok.sym py hmy s)) fun h11 bz e11 hbz vz => ?_
    have e11' : Ext h10 (lowered h11 h10.low) := Kp.lowered e11
    have vz' : Vec (lowered h11 h10.low) bz g.toks.length (rowF (nullF g) (firstF g) (px.right ++ py.right)) := vz
    have c11 := c10.ext e11'
    have vf' := ((vf.ext e7).ext e710).ext e11'
    have vh' := (vh.ext e710).ext e11'
    rw [ext1_0, obP_some, ext1_1, obP_some]
    generalize lowered h11 h10.low = h12 at e11' vz' c11 vf' vh' ⊢
    refine ⟨⟨(either_wr g8 hgb).1, (either_wr g9 hgb).1⟩, ?_⟩
    have hsl : sel true (slb bz g.toks.length) undef = slb bz g.toks.length := rfl
    have hN : rowN (nullF g) (px.right ++ py.right) = (rowN (nullF g) px.right && rowN (nullF g) py.right) := rowN_append
    simp only [lenS_sl, obP_some, fa_ptr, c11.ld.2.1, c11.len.1, ibin_neq, decide_true, Bool.not_true, gotB_false, Bool.not_false, g1_true, sel_true, pk_bool, sel_false, gotB_true, neq_bool]
    generalize hP : rowN (nullF g) px.right = p at *
    generalize hQ : rowN (nullF g) py.right = q at *
    rw [hN]
    have key : A12_1 (slb bf g.toks.length) (.bool p) (slb bh g.toks.length) (slb bz g.toks.length) (.int .i64 0) h12 fun v _ => v = .bool true := by
      have step : ∀ (m i : Nat), g.toks.length - i ≤ m → i ≤ g.toks.length → A12_1 (slb bf g.toks.length) (.bool p) (slb bh g.toks.length) (slb bz g.toks.length) (.int .i64 (i : Int)) h12 fun v _ => v = .bool true := by
        intro m
        induction m with
        | zero =>
          intro i hm hi
          have : i = g.toks.length := by omega
          subst this
          apply R12_1
          simp only [lenS_sl, ibin_lss, obP_some, asB_bool, show decide ((g.toks.length : Int) < (g.toks.length : Int)) = false from decide_eq_false (by omega), bP_false]
        | succ m ih =>
          intro i hm hi
          by_cases hlt : i < g.toks.length
          · apply R12_1
            have hz : rowF (nullF g) (firstF g) (px.right ++ py.right) i = (rowF (nullF g) (firstF g) px.right i || (p && rowF (nullF g) (firstF g) py.right i)) := by rw [rowF_append, hP]
            simp only [lenS_sl, ibin_lss, obP_some, asB_bool, show decide ((i : Int) < (g.toks.length : Int)) = true from decide_eq_true (by omega), bP_true, iaS_slb hlt, vz'.ld hlt, vf'.ld hlt, gotB_false, hz]
            have ht := ok.t.2
            cases rowF (nullF g) (firstF g) px.right i with
            | true =>
              simp only [Bool.not_true, sel_false, gotB_undef, obP_some, g1_false, pk_bool, sel_true, neq_bool, Bool.true_or, beq_self_eq_true, asB_bool, bP_false]
              rw [ibin_inc (by omega), obP_some]
              exact ih (i + 1) (by omega) hlt
            | false =>
              simp only [Bool.not_false, sel_true, gotB_true, obP_some]
              cases p with
              | false =>
                simp only [g1_false, g1_true, pk_bool, sel_false, obP_some, neq_bool, Bool.false_or, Bool.false_and, beq_self_eq_true, Bool.not_true, asB_bool, bP_false]
                rw [ibin_inc (by omega), obP_some]
                exact ih (i + 1) (by omega) hlt
              | true =>
                simp only [g1_true, sel_true, iaS_slb hlt, vh'.ld hlt, pk_bool, sel_false, obP_some, neq_bool, Bool.false_or, Bool.true_and, beq_self_eq_true, Bool.not_true, asB_bool, bP_false]
                rw [ibin_inc (by omega), obP_some]
                exact ih (i + 1) (by omega) hlt
          · have : i = g.toks.length := by omega
            subst this
            apply R12_1
            simp only [lenS_sl, ibin_lss, obP_some, asB_bool, show decide ((g.toks.length : Int) < (g.toks.length : Int)) = false from decide_eq_false (by omega), bP_false]
      exact step _ 0 (Nat.le_refl _) (Nat.zero_le _)
    cases p with
    | false =>
      simp only [pk_bool, sel_false, obP_some, g1_true, g1_false, neq_bool, Bool.false_and, beq_self_eq_true, Bool.not_true, asB_bool, bP_false]
      exact key
    | true =>
      simp only [pk_bool, sel_false, sel_true, obP_some, g1_true, g1_false, neq_bool, Bool.true_and, beq_self_eq_true, Bool.not_true, asB_bool, bP_false]
      exact key
end Go.Det
end
/- Bytes that are handed in. -/
set_option linter.unusedVariables false
noncomputable section
namespace Go.Det
open Go.Proofs
theorem wf_u8 {z : Int} (h : (Lit.int .u8 z).wf = true) : 0 ≤ z ∧ z < 256 := by
  have h1 : IntKind.u8.min = 0 := rfl
  have h2 : IntKind.u8.max = 255 := rfl
  simp only [Lit.wf, Bool.and_eq_true, decide_eq_true_eq] at h
  omega
theorem bytes_of {l : List Int} (h : ∀ z, z ∈ l → (Lit.int .u8 z).wf = true) : numRows .u8 l = byteRows (l.map Int.toNat) ∧ ∀ b, b ∈ l.map Int.toNat → b < 256 := by
  constructor
  · unfold numRows byteRows
    rw [List.map_map]
    refine List.map_congr_left fun z hz => ?_
    have := wf_u8 (h z hz)
    simp only [Function.comp_apply, Int.toNat_of_nonneg this.1]
  · intro b hb
    obtain ⟨z, hz, rfl⟩ := List.mem_map.1 hb
    have := wf_u8 (h z hz)
    omega
theorem firstRow_go {h : DH} {lv : Value} {l : List Int} {a b : Int} (hb : CP Try.prog 31 [] h fun v h' => v = .bool true ∧ Ext h h') (ra : RowsAt h lv 5 1 (numRows .u8 l)) (hl : ∀ z, z ∈ l → (Lit.int .u8 z).wf = true) (ha : (Lit.int .u8 a).wf = true) (hbb : (Lit.int .u8 b).wf = true) : CP Try.prog 12 [lv, .int .u8 a, .int .u8 b] h fun v _ => v = .bool true := by
  rw [(bytes_of hl).1] at ra
  have h1 := wf_u8 ha
  have h2 := wf_u8 hbb
  obtain ⟨a, rfl⟩ := Int.eq_ofNat_of_zero_le h1.1
  obtain ⟨b, rfl⟩ := Int.eq_ofNat_of_zero_le h2.1
  exact firstRow_walk hb ra (bytes_of hl).2 (by omega) (by omega)
end Go.Det
end

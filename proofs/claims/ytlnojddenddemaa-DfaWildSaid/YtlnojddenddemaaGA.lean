/- Rows of a table: which front of a text they tell; DfaWild. -/
import Derived.Test.YtlnojddenddemaaEA
import Derived.Test.YtlnojddenddemaaFA
set_option linter.unusedVariables false
set_option linter.unusedSimpArgs false
noncomputable section
namespace Go.Det
open Go.Proofs

structure Rw where
  next : List Int
  fin : Nat
def rowCells (r : Rw) : List Value := r.next.map (Value.int .i64) ++ [.int .i64 (r.fin : Int)]
/-- Each entry goes to one of so many rows, or nowhere. -/
def RwOk (L : Nat) (r : Rw) : Prop := r.next.length = 256 ∧ (∀ x, x ∈ r.next → -1 ≤ x ∧ x < (L : Int)) ∧ r.fin < 1000000
def stepTo (rows : List Rw) (at_ : Nat) (c : UInt8) : Option Int := (rows[at_]?).bind fun r => r.next[c.toNat]?
/-- Which kind, how far. -/
def walk (rows : List Rw) : List UInt8 → Nat → Nat → Nat × Nat → Nat × Nat
  | [], _, _, km => km
  | c :: cs, i, at_, km => match stepTo rows at_ c with
    | some x => if x < 0 then km else match rows[x.toNat]? with
      | some r => walk rows cs (i + 1) x.toNat (if 0 < r.fin then (r.fin - 1, i + 1) else km)
      | none => km
    | none => km
theorem stepTo_ok {rows : List Rw} {L at_ : Nat} {c : UInt8} (h : ∀ r, r ∈ rows → RwOk L r) (ha : at_ < rows.length) : ∃ r x, rows[at_]? = some r ∧ r.next[c.toNat]? = some x ∧ stepTo rows at_ c = some x ∧ -1 ≤ x ∧ x < (L : Int) := by
  have hr : rows[at_]? = some rows[at_] := List.getElem?_eq_getElem ha
  have ok := h _ (List.getElem_mem ha)
  have hc : c.toNat < rows[at_].next.length := by rw [ok.1]; exact c.toNat_lt
  refine ⟨rows[at_], rows[at_].next[c.toNat], hr, List.getElem?_eq_getElem hc, ?_, ok.2.1 _ (List.getElem_mem hc)⟩
  unfold stepTo; rw [hr]; simp [hc]
/-- What a row's cells are. -/
theorem row_cell {r : Rw} {L : Nat} (h : RwOk L r) {j : Nat} {x : Int} (hx : r.next[j]? = some x) : (rowCells r)[j]? = some (.int .i64 x) := by
  unfold rowCells
  have : j < (r.next.map (Value.int .i64)).length := by have := (List.getElem?_eq_some_iff.1 hx).1; simpa
  rw [List.getElem?_append_left this, List.getElem?_map, hx]; rfl
theorem row_fin {r : Rw} {L : Nat} (h : RwOk L r) : (rowCells r)[256]? = some (.int .i64 (r.fin : Int)) := by
  unfold rowCells
  rw [List.getElem?_append_right (by simp [h.1])]
  simp [h.1]
theorem row_len {r : Rw} {L : Nat} (h : RwOk L r) : (rowCells r).length = 257 := by simp [rowCells, h.1]
theorem iaA_ok {n s b o i : Nat} {k : IntKind} (h : i < n) : iaA n s (.pointer (some ⟨b, o, none⟩)) (.int k (i : Int)) = some (.pointer (some ⟨b, o + i * s, none⟩)) := by
  show guard' (Nat.blt i n) _ = _
  rw [show Nat.blt i n = true from Nat.ble_eq_true_of_le h]; rfl
theorem ixStr_ok {s : ByteArray} {i : Nat} {k : IntKind} {c : UInt8} (h : s.data.toList[i]? = some c) : ixStr (.string s) (.int k (i : Int)) = some (.int .u8 (c.toNat : Int)) := by
  show ob (lget s.data.toList i) _ = _
  rw [lget_eq, h]; rfl
def txt (s : ByteArray) : List UInt8 := s.data.toList
theorem txt_size (s : ByteArray) : s.size = (txt s).length := rfl
theorem drop_cons {α : Type} {l : List α} {i : Nat} (h : i < l.length) : ∃ c, l[i]? = some c ∧ l.drop i = c :: l.drop (i + 1) := ⟨l[i], List.getElem?_eq_getElem h, List.drop_eq_getElem_cons h⟩

/-- The program's look. -/
theorem longest_ok {h : DH} {v0 : Value} {rows : List Rw} {s : ByteArray} {Z : Value → DH → Prop} (hr : RowsAt h v0 41 257 (rows.map rowCells)) (hok : ∀ r, r ∈ rows → RwOk rows.length r) (hs : s.size < 1000000) (hrl : rows.length < 1000000)
    (K : ∀ k n, (k, n) = (if rows = [] then (0, 0) else walk rows (txt s) 0 0 (0, 0)) → Z (.tuple ⟨[.int .i64 (k : Int), .int .i64 (n : Int), .bool (decide (0 < n))]⟩) h) : CP Try.prog 19 [v0, .string s] h Z := by
  apply R19
  have hlen : (rows.map rowCells).length = rows.length := by simp
  by_cases hne : rows = []
  · subst hne
    apply R19_1
    have hz : lenS v0 = some (.int .i64 0) := by rw [hr.len]; rfl
    rw [lenStr_str, obP_some, ibin_lss, obP_some, gotB_true, obP_some]
    cases hd : decide ((0 : Int) < (s.size : Int)) with
    | false =>
      simp only [g1_false, pk_bool, sel_false, obP_some, gotB_true, asB_bool, bP_false]
      exact K 0 0 rfl
    | true =>
      simp only [g1_true, sel_true, ibin_geq, obP_some, pk_bool, gotB_true, show decide ((0 : Int) ≤ 0) = true from rfl, hz, ibin_lss, show decide ((0 : Int) < 0) = false from rfl, asB_bool, bP_false]
      exact K 0 0 rfl
  · have hpos : 0 < rows.length := by
      rcases Nat.eq_zero_or_pos rows.length with h | h
      · exact absurd (List.eq_nil_of_length_eq_zero h) hne
      · exact h
    have stop : ∀ (k n i : Nat) (at_ : Int), (at_ < 0 ∨ (txt s).length ≤ i) → Z (.tuple ⟨[.int .i64 (k : Int), .int .i64 (n : Int), .bool (decide (0 < n))]⟩) h → A19_1 v0 (.string s) (.int .i64 (k : Int)) (.int .i64 (n : Int)) (.bool (decide (0 < n))) (.int .i64 at_) (.int .i64 (i : Int)) h Z := by
      intro k n i at_ hst hz
      apply R19_1
      rw [lenStr_str, obP_some, ibin_lss, obP_some, gotB_true, obP_some]
      cases hd : decide ((i : Int) < (s.size : Int)) with
      | false =>
        simp only [g1_false, pk_bool, sel_false, obP_some, gotB_true, asB_bool, bP_false]
        exact hz
      | true =>
        have hi : i < (txt s).length := by have := of_decide_eq_true hd; rw [txt_size] at this; omega
        have hneg : at_ < 0 := by rcases hst with h | h <;> omega
        simp only [g1_true, sel_true, ibin_geq, obP_some, pk_bool, gotB_true, show decide ((0 : Int) ≤ at_) = false from decide_eq_false (by omega), g1_false, sel_false, asB_bool, bP_false]
        exact hz
    have key : ∀ (m i at_ k n : Nat), (txt s).length - i ≤ m → at_ < rows.length → (∀ k' n', (k', n') = walk rows ((txt s).drop i) i at_ (k, n) → Z (.tuple ⟨[.int .i64 (k' : Int), .int .i64 (n' : Int), .bool (decide (0 < n'))]⟩) h) →
        A19_1 v0 (.string s) (.int .i64 (k : Int)) (.int .i64 (n : Int)) (.bool (decide (0 < n))) (.int .i64 (at_ : Int)) (.int .i64 (i : Int)) h Z := by
      intro m
      induction m with
      | zero =>
        intro i at_ k n hm ha hz
        refine stop k n i at_ (.inr (by omega)) (hz k n ?_)
        rw [List.drop_eq_nil_of_le (by omega)]; rfl
      | succ m ih =>
        intro i at_ k n hm ha hz
        by_cases hi : i < (txt s).length
        · apply R19_1
          obtain ⟨c, hc, hd⟩ := drop_cons hi
          obtain ⟨r, x, e1, e2, e3, e4, e5⟩ := stepTo_ok (c := c) hok ha
          have ok := hok r (List.mem_of_getElem? e1)
          obtain ⟨b, q, cs, md, k1, k2, k3, k4, k5, k6⟩ := hr.at_ (k := .i64) (j := at_) (r := rowCells r) (by simp [e1])
          have l1 := ld1_has k3 ((k6 c.toNat (by have := c.toNat_lt; omega)).trans (row_cell ok e2))
          simp only [lenStr_str, obP_some, ibin_lss, show decide ((i : Int) < (s.size : Int)) = true from decide_eq_true (by rw [txt_size]; omega), gotB_true, g1_true, sel_true, ibin_geq, show decide ((0 : Int) ≤ (at_ : Int)) = true from decide_eq_true (by omega), pk_bool,
            hr.len, hlen, show decide ((at_ : Int) < (rows.length : Int)) = true from decide_eq_true (by omega), asB_bool, bP_true, ixStr_ok (k := .i64) hc, k1, fa_ptr, Nat.add_zero, iaA_ok (k := .u8) (n := 256) (s := 1) (b := b) (o := q) (i := c.toNat) (by have := c.toNat_lt; omega), Nat.mul_one, l1]
          rw [hd] at hz
          by_cases hx : x < 0
          · simp only [show decide ((0 : Int) ≤ x) = false from decide_eq_false (by omega), g1_false, sel_false, pk_bool, obP_some, gotB_true, asB_bool, bP_false]
            rw [ibin_inc (by rw [txt_size] at hs; omega), obP_some]
            refine stop k n (i + 1) x (.inl hx) (hz k n ?_)
            show _ = match stepTo rows at_ c with | some x => _ | none => _
            rw [e3]
            simp only [if_pos hx]
          · obtain ⟨y, rfl⟩ : ∃ y : Nat, x = (y : Int) := ⟨x.toNat, by omega⟩
            have hy : y < rows.length := by omega
            have e6 : rows[y]? = some rows[y] := List.getElem?_eq_getElem hy
            have oky := hok rows[y] (List.getElem_mem hy)
            obtain ⟨b2, q2, cs2, md2, j1, j2, j3, j4, j5, j6⟩ := hr.at_ (k := .i64) (j := y) (r := rowCells rows[y]) (by simp [e6])
            have l2 := ld1_has j3 ((j6 256 (by omega)).trans (row_fin oky))
            simp only [show decide ((0 : Int) ≤ (y : Int)) = true from decide_eq_true (by omega), g1_true, sel_true, show decide ((y : Int) < (rows.length : Int)) = true from decide_eq_true (by omega), pk_bool, obP_some, gotB_true, j1, fa_ptr, l2, ibin_gtr, asB_bool, hr.len, hlen, ibin_lss]
            have hw : walk rows (c :: (txt s).drop (i + 1)) i at_ (k, n) = walk rows ((txt s).drop (i + 1)) (i + 1) y (if 0 < rows[y].fin then (rows[y].fin - 1, i + 1) else (k, n)) := by
              show (match stepTo rows at_ c with | some x => _ | none => _) = _
              rw [e3]
              simp only [if_neg hx, Int.toNat_natCast, e6]
            rw [hw] at hz
            by_cases hf : 0 < rows[y].fin
            · rw [show decide ((0 : Int) < (rows[y].fin : Int)) = true from decide_eq_true (by omega), bP_true]
              obtain ⟨f, hfe⟩ : ∃ f, rows[y].fin = f + 1 := ⟨rows[y].fin - 1, by omega⟩
              rw [hfe, ibin_dec (by have := oky.2.2; omega), obP_some, ibin_inc (by rw [txt_size] at hs; omega), obP_some, obP_some]
              have := ih (i + 1) y f (i + 1) (by omega) hy (fun k' n' e => hz k' n' (by rw [e, if_pos hf, hfe]; rfl))
              rw [show decide (0 < i + 1) = true from decide_eq_true (by omega)] at this
              exact this
            · rw [show decide ((0 : Int) < (rows[y].fin : Int)) = false from decide_eq_false (by omega), bP_false]
              rw [ibin_inc (by rw [txt_size] at hs; omega), obP_some]
              exact ih (i + 1) y k n (by omega) hy (fun k' n' e => hz k' n' (by rw [e, if_neg hf]))
        · refine stop k n i at_ (.inr (by omega)) (hz k n ?_)
          rw [List.drop_eq_nil_of_le (by omega)]; rfl
    have := key _ 0 0 0 0 (Nat.le_refl _) hpos (fun k' n' e => K k' n' (by rw [e, if_neg hne]; rfl))
    exact this
end Go.Det
end
/- DfaWild: what rows tell, whatever stands in them: the walk. -/
set_option linter.unusedVariables false
set_option linter.unusedSimpArgs false
noncomputable section
namespace Go.Det
open Go.Proofs

theorem eq_boolN (xo yo : Operand) (a b : Bool) : dbin Try.prog .eql 4 xo yo (.bool a) (.bool b) = some (.bool (a == b)) := by
  cases a <;> cases b <;> kernel_rfl
theorem wf_u8N {z : Int} (h : (Lit.int .u8 z).wf = true) : 0 ≤ z ∧ z < 256 := by
  have h1 : IntKind.u8.min = 0 := rfl
  have h2 : IntKind.u8.max = 255 := rfl
  simp only [Lit.wf, Bool.and_eq_true, decide_eq_true_eq] at h
  omega
theorem idiv_u8 {z : Nat} {m : Nat} (hm : 0 < m) : idiv .rem (.int .u8 (z : Int)) (.int .u8 (m : Int)) = some (.int .u8 ((z % m : Nat) : Int)) := by
  show guard' (sel (sameKind .u8 .u8) (sel (ieq (m : Int) 0) false true) false) (some (Value.int .u8 ((z : Int).tmod (m : Int)))) = _
  rw [ieq_eq, show ((m : Int) == 0) = false from by simp; omega]
  show some _ = _
  congr 2
theorem cvI_u8N {b : Nat} (hb : b < 256) : cvI .i64 (.int .u8 (b : Int)) = some (.int .i64 (b : Int)) := by
  show some (Value.int .i64 (IntKind.wrap .i64 (b : Int))) = _
  rw [IntWalk.i64_in _ (by omega)]
theorem okCell_int (k : IntKind) (x : Int) : okCell (.int k x) = true := rfl
theorem row_ok (r : Rw) : lall okCell (rowCells r) = true := by
  rw [lall_eq, List.all_eq_true]
  intro v hv
  unfold rowCells at hv
  rcases List.mem_append.1 hv with h | h
  · obtain ⟨x, _, rfl⟩ := List.mem_map.1 h; rfl
  · simp at h; subst h; rfl
theorem row_set {r : Rw} {L : Nat} (h : RwOk L r) {j : Nat} (hj : j < 256) (x : Int) : rowCells ⟨r.next.set j x, r.fin⟩ = (rowCells r).take j ++ [.int .i64 x] ++ (rowCells r).drop (j + 1) := by
  have hl := h.1
  unfold rowCells
  rw [List.take_append_of_le_length (by simp; omega), List.drop_append_of_le_length (by simp; omega), ← List.map_take, ← List.map_drop, List.set_eq_take_append_cons_drop, if_pos (by omega)]
  simp
def zeros : List Int := List.replicate 256 0
theorem zeros_len : zeros.length = 256 := List.length_replicate ..
theorem zeros_mem {x : Int} (h : x ∈ zeros) : x = 0 := List.eq_of_mem_replicate h
theorem bld_row (f : Nat) : bld (List.replicate 257 (Value.int .i64 0)) [((256, 1), .int .i64 (f : Int))] = some (.agg ⟨rowCells ⟨zeros, f⟩⟩) := by kernel_rfl
theorem over_zeros (l : List Value) : l = (List.replicate 257 (Value.int .i64 0)).take 0 ++ l ++ (List.replicate 257 (Value.int .i64 0)).drop (0 + 257) := by
  rw [List.take_zero, List.drop_replicate, Nat.zero_add, Nat.sub_self, List.replicate_zero, List.nil_append, List.append_nil]

section
variable {n0 : Nat} {h0 : DH} {v0 : Value} {arr : List (List Value)} {s : ByteArray} {Z : Value → DH → Prop}
/-- What the reference looks at behind the program. -/
theorem ref_ok' {h : DH} {v5 : Value} {rows : List Rw} {k n : Nat} (hr : RowsAt h v5 41 257 (rows.map rowCells)) (hok : ∀ r, r ∈ rows → RwOk rows.length r) (hs : s.size < 1000000)
    (hkn : (k, n) = (if rows = [] then (0, 0) else walk rows (txt s) 0 0 (0, 0))) :
    A9_3 (.string s) v5 (.int .i64 (k : Int)) (.int .i64 (n : Int)) (.bool (decide (0 < n))) (.int .i64 0) (.int .i64 0) (.int .i64 0) (.int .i64 0) h fun v _ => v = .bool true := by
  have hlen : (rows.map rowCells).length = rows.length := by simp
  have fin : A9_5 (.int .i64 (k : Int)) (.int .i64 (n : Int)) (.bool (decide (0 < n))) (.int .i64 (k : Int)) (.int .i64 (n : Int)) h fun v _ => v = .bool true := by
    apply R9_5
    rw [ibin_gtr, obP_some, eq_boolN, obP_some, show decide ((0 : Int) < (n : Int)) = decide (0 < n) from by simp, beq_self_eq_true, gotB_true, obP_some]
    simp only [g1_true, sel_true, ibin_eql, decide_true, pk_bool, obP_some, gotB_true, bnot_bool, gotB_false]
    cases decide (0 < n) with
    | true => simp only [Bool.not_true, Bool.not_false, g1_true, sel_true, obP_some, decide_true, pk_bool, sel_false, ibin_eql]
    | false => simp only [Bool.not_false, Bool.not_true, g1_false, sel_false, pk_bool, sel_true, obP_some]
  have key : ∀ (m i at_ k2 n2 : Nat), (txt s).length - i ≤ m → at_ < rows.length → (k, n) = walk rows ((txt s).drop i) i at_ (k2, n2) →
      A9_3 (.string s) v5 (.int .i64 (k : Int)) (.int .i64 (n : Int)) (.bool (decide (0 < n))) (.int .i64 (at_ : Int)) (.int .i64 (k2 : Int)) (.int .i64 (n2 : Int)) (.int .i64 (i : Int)) h fun v _ => v = .bool true := by
    intro m
    have done : ∀ (i at_ k2 n2 : Nat), (txt s).length ≤ i → (k, n) = walk rows ((txt s).drop i) i at_ (k2, n2) → A9_3 (.string s) v5 (.int .i64 (k : Int)) (.int .i64 (n : Int)) (.bool (decide (0 < n))) (.int .i64 (at_ : Int)) (.int .i64 (k2 : Int)) (.int .i64 (n2 : Int)) (.int .i64 (i : Int)) h fun v _ => v = .bool true := by
      intro i at_ k2 n2 hi e
      rw [List.drop_eq_nil_of_le hi] at e
      simp only [walk, Prod.mk.injEq] at e
      obtain ⟨rfl, rfl⟩ := e
      apply R9_3
      simp only [lenStr_str, obP_some, ibin_lss, show decide ((i : Int) < (s.size : Int)) = false from decide_eq_false (by rw [txt_size]; omega), gotB_true, g1_false, pk_bool, sel_false, asB_bool, bP_false]
      exact fin
    induction m with
    | zero => intro i at_ k2 n2 hm ha e; exact done i at_ k2 n2 (by omega) e
    | succ m ih =>
      intro i at_ k2 n2 hm ha e
      by_cases hi : i < (txt s).length
      · apply R9_3
        obtain ⟨c, hc, hd⟩ := drop_cons hi
        obtain ⟨r, x, e1, e2, e3, e4, e5⟩ := stepTo_ok (c := c) hok ha
        have ok := hok r (List.mem_of_getElem? e1)
        obtain ⟨b, q, cs, md, k1, k2', k3, k4, k5, k6⟩ := hr.at_ (k := .i64) (j := at_) (r := rowCells r) (by simp [e1])
        have l1 := ld1_has k3 ((k6 c.toNat (by have := c.toNat_lt; omega)).trans (row_cell ok e2))
        simp only [lenStr_str, obP_some, ibin_lss, show decide ((i : Int) < (s.size : Int)) = true from decide_eq_true (by rw [txt_size]; omega), gotB_true, g1_true, sel_true, hr.len, hlen, ibin_gtr, show decide ((0 : Int) < (rows.length : Int)) = true from decide_eq_true (by omega), pk_bool, asB_bool, bP_true,
          ixStr_ok (k := .i64) hc, k1, fa_ptr, Nat.add_zero, iaA_ok (k := .u8) (n := 256) (s := 1) (b := b) (o := q) (i := c.toNat) (by have := c.toNat_lt; omega), Nat.mul_one, l1]
        rw [hd] at e
        by_cases hx : x < 0
        · rw [show decide (x < 0) = true from decide_eq_true hx, bP_true]
          have e : (k, n) = (match stepTo rows at_ c with | some x => _ | none => _) := e
          rw [e3] at e
          simp only [if_pos hx, Prod.mk.injEq] at e
          obtain ⟨rfl, rfl⟩ := e
          exact fin
        · rw [show decide (x < 0) = false from decide_eq_false hx, bP_false]
          obtain ⟨y, rfl⟩ : ∃ y : Nat, x = (y : Int) := ⟨x.toNat, by omega⟩
          have hy : y < rows.length := by omega
          have e6 : rows[y]? = some rows[y] := List.getElem?_eq_getElem hy
          have oky := hok rows[y] (List.getElem_mem hy)
          obtain ⟨b2, q2, cs2, md2, j1, j2, j3, j4, j5, j6⟩ := hr.at_ (k := .i64) (j := y) (r := rowCells rows[y]) (by simp [e6])
          have l2 := ld1_has j3 ((j6 256 (by omega)).trans (row_fin oky))
          simp only [j1, obP_some, fa_ptr, l2, ibin_gtr, asB_bool]
          have e : (k, n) = (match stepTo rows at_ c with | some x => (if x < 0 then (k2, n2) else (match rows[x.toNat]? with | some r => walk rows ((txt s).drop (i + 1)) (i + 1) x.toNat (if 0 < r.fin then (r.fin - 1, i + 1) else (k2, n2)) | none => (k2, n2))) | none => (k2, n2)) := e
          rw [e3] at e
          simp only [if_neg hx, Int.toNat_natCast, e6] at e
          by_cases hf : 0 < rows[y].fin
          · rw [show decide ((0 : Int) < (rows[y].fin : Int)) = true from decide_eq_true (by omega), bP_true]
            obtain ⟨f, hfe⟩ : ∃ f, rows[y].fin = f + 1 := ⟨rows[y].fin - 1, by omega⟩
            rw [hfe, ibin_dec (by have := oky.2.2; omega), obP_some, ibin_inc (by rw [txt_size] at hs; omega), obP_some, obP_some]
            exact ih (i + 1) y f (i + 1) (by omega) hy (by rw [e, if_pos hf, hfe]; rfl)
          · rw [show decide ((0 : Int) < (rows[y].fin : Int)) = false from decide_eq_false (by omega), bP_false]
            rw [ibin_inc (by rw [txt_size] at hs; omega), obP_some]
            exact ih (i + 1) y k2 n2 (by omega) hy (by rw [e, if_neg hf])
      · exact done i at_ k2 n2 (by omega) e
  by_cases hne : rows = []
  · subst hne
    simp only [if_pos trivial, Prod.mk.injEq] at hkn
    obtain ⟨rfl, rfl⟩ := hkn
    apply R9_3
    have hz : lenS v5 = some (.int .i64 0) := by rw [hr.len]; rfl
    simp only [lenStr_str, obP_some, ibin_lss, gotB_true]
    cases hd : decide ((0 : Int) < (s.size : Int)) with
    | false =>
      simp only [g1_false, pk_bool, sel_false, obP_some, asB_bool, bP_false]
      exact fin
    | true =>
      simp only [g1_true, sel_true, hz, obP_some, ibin_gtr, show decide ((0 : Int) < 0) = false from rfl, pk_bool, asB_bool, bP_false]
      exact fin
  · rw [if_neg hne] at hkn
    have hpos : 0 < rows.length := by
      rcases Nat.eq_zero_or_pos rows.length with h | h
      · exact absurd (List.eq_nil_of_length_eq_zero h) hne
      · exact h
    exact key _ 0 0 0 0 (Nat.le_refl _) hpos hkn

/-- The rows so far, and one in the making. -/
structure WS (n0 : Nat) (h0 h : DH) (v0 v5 : Value) (arr : List (List Value)) (rows : List Rw) : Prop where
  a : RowsAt h v0 48 4 arr
  g : Grow h v5 41 257 (rows.map rowCells) n0
  ok : ∀ r, r ∈ rows → RwOk arr.length r
  k : KS n0 [] [41] h0 h
  n : n0 ≤ h.n
theorem WS.keep {h h' : DH} {v5 : Value} {rows : List Rw} {b7 : Nat} (a : WS n0 h0 h v0 v5 arr rows) (hb : b7 ∉ blockOf v5) (f : Kp h h' (· = b7)) (fk : KS n0 [] [41] h h') : WS n0 h0 h' v0 v5 arr rows :=
  ⟨a.a.ks fk (by decide) (by decide), a.g.kp f fun b hb' hx => hb (hx ▸ hb'), a.ok, a.k.trans fk, Nat.le_trans a.n f.n⟩
theorem arr_at {h : DH} (ha : RowsAt h v0 48 4 arr) (har : ArrRows .u8 4 arr) {i j : Nat} (hi : i < arr.length) (hj : j < 4) : ∃ (p q : Value) (z : Nat), z < 256 ∧ iaS 4 v0 (.int .i64 (i : Int)) = some p ∧ iaA 4 1 p (.int .i64 (j : Int)) = some q ∧ ld1 h q = some (.int .u8 (z : Int)) := by
  obtain ⟨b, q, c, md, k1, k2, k3, k4, k5, k6⟩ := ha.at_ (k := .i64) (j := i) (List.getElem?_eq_getElem hi)
  have hr := har _ (List.getElem_mem hi)
  have hv : arr[i][j]? = some (arr[i][j]'(by omega)) := List.getElem?_eq_getElem (by omega)
  obtain ⟨z, hz, hw⟩ := hr.2 j _ hv
  have := wf_u8N hw
  refine ⟨_, _, z.toNat, by omega, k1, iaA_ok hj, ld1_has k3 ?_⟩
  rw [Nat.mul_one, k6 j hj, hv, hz, Int.toNat_of_nonneg this.1]
/-- One entry turned. -/
theorem put_entry {h : DH} {v5 : Value} {rows : List Rw} {b7 j : Nat} {r : Rw} {x : Int} {L : Nat} {F : DH → Prop} (a : WS n0 h0 h v0 v5 arr rows) (hb : b7 ∉ blockOf v5) (hn : n0 ≤ b7) (q : Has h b7 (.cells (rowCells r) 41 .exact)) (hr : RwOk L r) (hj : j < 256)
    (K : ∀ h', WS n0 h0 h' v0 v5 arr rows → Has h' b7 (.cells (rowCells ⟨r.next.set j x, r.fin⟩) 41 .exact) → F h') : obP (st 1 h (.pointer (some ⟨b7, 0 + j * 1, none⟩)) (.int .i64 x)) F := by
  refine st_ok (c' := rowCells ⟨r.next.set j x, r.fin⟩) q rfl rfl rfl rfl (by rw [row_len hr]; omega) rfl ?_ ?_
  · rw [row_set hr hj, Nat.zero_add, Nat.mul_one]; rfl
  · exact K _ (a.keep hb (Kp.upd _ (.inl rfl)) (KS.upd _ q hn (by simp))) (q.upd_self _)
theorem set_ok {r : Rw} {L j : Nat} {x : Int} (h : RwOk L r) (h1 : -1 ≤ x) (h2 : x < (L : Int)) : RwOk L ⟨r.next.set j x, r.fin⟩ := by
  refine ⟨by simpa using h.1, fun y hy => ?_, h.2.2⟩
  rcases List.mem_or_eq_of_mem_set hy with h3 | h3
  · exact h.2.1 y h3
  · subst h3; exact ⟨h1, h2⟩
theorem wild4 (har : ArrRows .u8 4 arr) (hal : arr.length ≤ 5) {i : Nat} {rows : List Rw} {v5 : Value} {b7 : Nat} (hi : i < arr.length) (hri : rows.length = i) (hb : b7 ∉ blockOf v5) (hn : n0 ≤ b7)
    (next : ∀ rows' v5' h', rows'.length = i + 1 → WS n0 h0 h' v0 v5' arr rows' → A9_1 v0 (.string s) v5' (.int .i64 ((i + 1 : Nat) : Int)) h' Z) (m : Nat) :
    ∀ (k : Nat) (r : Rw) h, 3 - k ≤ m → k ≤ 3 → WS n0 h0 h v0 v5 arr rows → Has h b7 (.cells (rowCells r) 41 .exact) → RwOk arr.length r → A9_4 v0 (.string s) v5 (.int .i64 (i : Int)) (.pointer (some ⟨b7, 0, none⟩)) (.int .i64 (k : Int)) h Z := by
  have done : ∀ (r : Rw) h, WS n0 h0 h v0 v5 arr rows → Has h b7 (.cells (rowCells r) 41 .exact) → RwOk arr.length r → A9_4 v0 (.string s) v5 (.int .i64 (i : Int)) (.pointer (some ⟨b7, 0, none⟩)) (.int .i64 ((3 : Nat) : Int)) h Z := by
    intro r h a q hr
    apply R9_4
    rw [ibin_lss, obP_some, asB_bool, obP_some, show decide (((3 : Nat) : Int) < 3) = false from rfl, bP_false]
    refine obP_of (ldN_has (l := rowCells r) q (by rw [cut_ok (by rw [row_len hr]; omega), List.drop_zero, List.take_of_length_le (by rw [row_len hr]; omega)])) ?_
    refine app1 (cs := rowCells r) a.g a.n (List.length_replicate ..) rfl rfl rfl (row_len hr) (row_ok r) (by decide) (room_ok (by simp; omega) (by simp; omega) (by omega)) fun v' h' g f => ?_
    have fk : KS n0 [] [41] h h' := KS.grow a.g f (by simp)
    rw [ibin_inc (by omega), obP_some]
    refine next (rows ++ [r]) v' h' (by simp [hri]) ⟨a.a.ks fk (by decide) (by decide), by simpa using g, ?_, a.k.trans fk, Nat.le_trans a.n f.n⟩
    intro x hx
    rcases List.mem_append.1 hx with h1 | h1
    · exact a.ok x h1
    · simp at h1; subst h1; exact hr
  induction m with
  | zero =>
    intro k r h hm hk a q hr
    have : k = 3 := by omega
    subst this; exact done r h a q hr
  | succ m ih =>
    intro k r h hm hk a q hr
    by_cases hk3 : k < 3
    · apply R9_4
      obtain ⟨p, p2, z, hz, e1, e2, e3⟩ := arr_at (j := k) a.a har hi (by omega)
      rw [ibin_lss, obP_some, asB_bool, obP_some, show decide ((k : Int) < 3) = true from decide_eq_true (by omega), bP_true, show (97 : Int) = ((97 : Nat) : Int) from rfl, ibin_addN (by omega), obP_some, e1, obP_some, e2, obP_some, e3, obP_some,
        show (Value.int .u8 6) = .int .u8 ((6 : Nat) : Int) from rfl, idiv_u8 (by omega), obP_some, cvI_u8N (by omega), obP_some, ibin_sub (by omega) (by omega), obP_some, fa_ptr, obP_some, iaA_ok (by omega), obP_some]
      have hx : -1 ≤ ((z % 6 : Nat) : Int) - 1 := by omega
      refine put_entry a hb hn q hr (by omega) fun h2 a2 q2 => ?_
      have hlen2 : (rowCells ⟨r.next.set (97 + k) (((z % 6 : Nat) : Int) - 1), r.fin⟩).length = 257 := by simp [rowCells, hr.1]
      rw [obP_some, obP_some, iaA_ok (by omega), obP_some]
      refine obP_of (ld1_has q2 (v := .int .i64 (((z % 6 : Nat) : Int) - 1)) ?_) ?_
      · unfold rowCells
        rw [List.getElem?_append_left (by simp [hr.1]; omega), List.getElem?_map, Nat.zero_add, Nat.mul_one, List.getElem?_set_self (by rw [hr.1]; omega)]; rfl
      · rw [a2.a.len, obP_some, ibin_geq, obP_some, asB_bool, obP_some]
        by_cases hge : (arr.length : Int) ≤ ((z % 6 : Nat) : Int) - 1
        · rw [show decide ((arr.length : Int) ≤ ((z % 6 : Nat) : Int) - 1) = true from decide_eq_true hge, bP_true, obP_some, obP_some, iaA_ok (by omega), obP_some]
          have hr' : RwOk (arr.length + 10) ⟨r.next.set (97 + k) (((z % 6 : Nat) : Int) - 1), r.fin⟩ := set_ok ⟨hr.1, fun x hx => ⟨(hr.2.1 x hx).1, by have := (hr.2.1 x hx).2; omega⟩, hr.2.2⟩ hx (by omega)
          refine put_entry a2 hb hn q2 hr' (by omega) fun h3 a3 q3 => ?_
          rw [ibin_inc (by omega), obP_some]
          refine ih (k + 1) ⟨r.next.set (97 + k) (-1), r.fin⟩ h3 (by omega) (by omega) a3 ?_ (set_ok hr (by omega) (by omega))
          have : (r.next.set (97 + k) (((z % 6 : Nat) : Int) - 1)).set (97 + k) (-1) = r.next.set (97 + k) (-1) := by rw [List.set_set]
          rw [← this]; exact q3
        · rw [show decide ((arr.length : Int) ≤ ((z % 6 : Nat) : Int) - 1) = false from decide_eq_false hge, bP_false, ibin_inc (by omega), obP_some]
          exact ih (k + 1) _ h2 (by omega) (by omega) a2 q2 (set_ok hr hx (by omega))
    · have : k = 3 := by omega
      subst this; exact done r h a q hr
theorem wild2 {i : Nat} {rows : List Rw} {v5 : Value} {b7 : Nat} (hi : 0 < arr.length) (hb : b7 ∉ blockOf v5) (hn : n0 ≤ b7)
    (next : ∀ (r : Rw) h, WS n0 h0 h v0 v5 arr rows → Has h b7 (.cells (rowCells r) 41 .exact) → RwOk arr.length r → A9_4 v0 (.string s) v5 (.int .i64 (i : Int)) (.pointer (some ⟨b7, 0, none⟩)) (.int .i64 0) h Z) (m : Nat) :
    ∀ (j : Nat) (r : Rw) h, 256 - j ≤ m → j ≤ 256 → WS n0 h0 h v0 v5 arr rows → Has h b7 (.cells (rowCells r) 41 .exact) → RwOk arr.length r → A9_2 v0 (.string s) v5 (.int .i64 (i : Int)) (.pointer (some ⟨b7, 0, none⟩)) (.int .i64 (j : Int)) h Z := by
  have done : ∀ (r : Rw) h, WS n0 h0 h v0 v5 arr rows → Has h b7 (.cells (rowCells r) 41 .exact) → RwOk arr.length r → A9_2 v0 (.string s) v5 (.int .i64 (i : Int)) (.pointer (some ⟨b7, 0, none⟩)) (.int .i64 ((256 : Nat) : Int)) h Z := by
    intro r h a q hr
    apply R9_2
    rw [ibin_lss, obP_some, asB_bool, obP_some, show decide (((256 : Nat) : Int) < 256) = false from rfl, bP_false]
    exact next r h a q hr
  induction m with
  | zero =>
    intro k r h hm hk a q hr
    have : k = 256 := by omega
    subst this; exact done r h a q hr
  | succ m ih =>
    intro j r h hm hk a q hr
    by_cases hj : j < 256
    · apply R9_2
      rw [ibin_lss, obP_some, asB_bool, obP_some, show decide ((j : Int) < 256) = true from decide_eq_true (by omega), bP_true, fa_ptr, obP_some, iaA_ok hj, obP_some]
      refine put_entry a hb hn q hr hj fun h2 a2 q2 => ?_
      rw [ibin_inc (by omega), obP_some]
      exact ih (j + 1) _ h2 (by omega) (by omega) a2 q2 (set_ok hr (by omega) (by omega))
    · have : j = 256 := by omega
      subst this; exact done r h a q hr
theorem wild1 (har : ArrRows .u8 4 arr) (hal : arr.length ≤ 5) (hs : s.size < 1000000) (m : Nat) :
    ∀ (i : Nat) rows v5 h, arr.length - i ≤ m → i ≤ arr.length → rows.length = i → WS n0 h0 h v0 v5 arr rows → A9_1 v0 (.string s) v5 (.int .i64 (i : Int)) h fun v _ => v = .bool true := by
  have done : ∀ rows v5 h, rows.length = arr.length → WS n0 h0 h v0 v5 arr rows → A9_1 v0 (.string s) v5 (.int .i64 (arr.length : Int)) h fun v _ => v = .bool true := by
    intro rows v5 h hl a
    apply R9_1
    rw [a.a.len, obP_some, ibin_lss, obP_some, asB_bool, obP_some, show decide ((arr.length : Int) < (arr.length : Int)) = false from decide_eq_false (by omega), bP_false]
    have hok : ∀ r, r ∈ rows → RwOk rows.length r := by rw [hl]; exact a.ok
    refine longest_ok a.g.rows hok hs (by omega) fun k n hkn => ?_
    refine obP_of (a := .int .i64 (k : Int)) rfl ?_
    refine obP_of (a := .int .i64 (n : Int)) rfl ?_
    refine obP_of (a := .bool (decide (0 < n))) rfl ?_
    exact ref_ok' a.g.rows hok hs hkn
  induction m with
  | zero =>
    intro i rows v5 h hm hi hl a
    have : i = arr.length := by omega
    subst this; exact done rows v5 h hl a
  | succ m ih =>
    intro i rows v5 h hm hi hl a
    by_cases hlt : i < arr.length
    · apply R9_1
      obtain ⟨p, p2, z, hz, e1, e2, e3⟩ := arr_at (j := 3) a.a har hlt (by omega)
      rw [a.a.len, obP_some, ibin_lss, obP_some, asB_bool, obP_some, show decide ((i : Int) < (arr.length : Int)) = true from decide_eq_true (by omega), bP_true, e1, obP_some, show (Value.int .i64 3) = .int .i64 ((3 : Nat) : Int) from rfl, e2, obP_some, e3, obP_some,
        show (Value.int .u8 4) = .int .u8 ((4 : Nat) : Int) from rfl, idiv_u8 (by omega), obP_some, cvI_u8N (by omega), obP_some, bld_row, obP_some, al_ok, oh_some]
      have r0 : RwOk arr.length ⟨zeros, z % 4⟩ := ⟨zeros_len, fun x hx => by have := zeros_mem hx; omega, by show z % 4 < 1000000; omega⟩
      have x1 := Ext.push h (.cells (List.replicate 257 (Value.int .i64 0)) 41 .exact)
      have q1 : Has (h.push (.cells (List.replicate 257 (Value.int .i64 0)) 41 .exact)) h.n (.cells (List.replicate 257 (Value.int .i64 0)) 41 .exact) := Has.push_self _ _
      have hn7 := a.n
      have hb : h.n ∉ blockOf v5 := fun hb => by have := (a.g.block _ hb).2; omega
      have a1 : WS n0 h0 (h.push (.cells (List.replicate 257 (Value.int .i64 0)) 41 .exact)) v0 v5 arr rows := ⟨a.a.ext x1, a.g.ext x1, a.ok, a.k.trans (KS.ext x1), Nat.le_trans a.n x1.n⟩
      generalize h.push (.cells (List.replicate 257 (Value.int .i64 0)) 41 .exact) = h1 at x1 q1 a1 ⊢
      refine st_ok (c' := rowCells ⟨zeros, z % 4⟩) q1 rfl rfl rfl (row_len r0) (by rw [List.length_replicate]; omega) (row_ok _) (over_zeros _) ?_
      · have a2 := a1.keep hb (Kp.upd (.cells (rowCells ⟨zeros, z % 4⟩) 41 .exact) (.inl rfl)) (KS.upd _ q1 a.n (by simp))
        have q2 : Has (h1.upd h.n (.cells (rowCells ⟨zeros, z % 4⟩) 41 .exact)) h.n (.cells (rowCells ⟨zeros, z % 4⟩) 41 .exact) := q1.upd_self _
        refine wild2 (by omega) hb a.n (fun r h a q hr => ?_) 256 0 _ _ (by omega) (by omega) a2 q2 r0
        exact wild4 har hal hlt hl hb hn7 (fun rows' v5' h' hl' a' => ih (i + 1) rows' v5' h' (by omega) (by omega) hl' a') 3 0 r h (by omega) (by omega) a q hr
    · have : i = arr.length := by omega
      subst this; exact done rows v5 h hl a
end
theorem dfaWild_walk {h : DH} {v0 : Value} {arr : List (List Value)} {s : ByteArray} (hb : CP Try.prog 16 [] h fun v h' => v = .bool true ∧ Ext h h') (a : RowsAt h v0 48 4 arr) (har : ArrRows .u8 4 arr) : CP Try.prog 9 [v0, .string s] h fun v _ => v = .bool true := by
  apply R9
  refine hb.mono ?_
  rintro v h2 ⟨rfl, e⟩
  have a2 := a.ext e
  rw [bnot_bool, obP_some, asB_bool, obP_some]
  show bP false _ _
  rw [bP_false, a2.len, obP_some, ibin_gtr, obP_some, gotB_false, obP_some]
  by_cases hbig : 5 < arr.length
  · simp only [show decide ((5 : Int) < (arr.length : Int)) = true from decide_eq_true (by omega), Bool.not_true, g1_false, pk_bool, sel_true, obP_some, asB_bool, bP_true]
  · simp only [show decide ((5 : Int) < (arr.length : Int)) = false from decide_eq_false (by omega), Bool.not_false, g1_true, sel_true, lenStr_str, obP_some, ibin_gtr, pk_bool, sel_false, asB_bool]
    by_cases hsz : 12 < s.size
    · simp only [show decide ((12 : Int) < (s.size : Int)) = true from decide_eq_true (by omega), bP_true]
    · simp only [show decide ((12 : Int) < (s.size : Int)) = false from decide_eq_false (by omega), bP_false]
      exact wild1 (n0 := h2.n) (h0 := h2) har (by omega) (by omega) arr.length 0 [] _ h2 (by omega) (by omega) rfl ⟨a2, Grow.nil _ _ _ _, (fun r hr => by cases hr), KS.refl _ _ _ _, Nat.le_refl _⟩
end Go.Det
end

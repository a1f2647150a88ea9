/- Picks: a choice below a number. -/
import Derived.Test.YtlcjcokniplghaaEA
import Derived.Test.YtlcjcokniplghaaFA
set_option linter.unusedVariables false
set_option linter.unusedSimpArgs false
noncomputable section
namespace Go.Det
open Go.Proofs

def byteRows (l : List Nat) : List (List Value) := l.map fun b : Nat => [.int .u8 (b : Int)]
/-- Numbers to choose by, and how many are used. -/
def PK (h : DH) (pb : Nat) (lv : Value) (l : List Nat) (n : Nat) : Prop :=
  ∃ md, isRo md = false ∧ Has h pb (.cells [lv, .int .i64 (n : Int)] 97 md) ∧ RowsAt h lv 5 1 (byteRows l) ∧ n ≤ l.length ∧ l.length < 1000000 ∧ ∀ b, b ∈ l → b < 256
theorem PK.ext {h h' : DH} {pb : Nat} {lv : Value} {l : List Nat} {n : Nat} (a : PK h pb lv l n) (f : Ext h h') : PK h' pb lv l n := by
  obtain ⟨md, h1, h2, h3, h4⟩ := a
  exact ⟨md, h1, h2.ext f, h3.ext f, h4⟩
theorem PK.ks {n0 : Nat} {o ts : List Nat} {h h' : DH} {pb : Nat} {lv : Value} {l : List Nat} {n : Nat} (a : PK h pb lv l n) (f : KS n0 o ts h h') (h1 : 97 ∉ o) (h2 : 97 ∉ ts) (h3 : 5 ∉ o) (h4 : 5 ∉ ts) : PK h' pb lv l n := by
  obtain ⟨md, g1, g2, g3, g4⟩ := a
  exact ⟨md, g1, g2.ks f h1 h2, g3.ks f h3 h4, g4⟩
theorem cvI_u8 {b : Nat} (hb : b < 256) : cvI .i64 (.int .u8 (b : Int)) = some (.int .i64 (b : Int)) := by
  show some (Value.int .i64 (IntKind.wrap .i64 (b : Int))) = _
  rw [IntWalk.i64_in _ (by omega)]
theorem num_ok {h : DH} {pb : Nat} {lv : Value} {l : List Nat} {n m : Nat} {Z : Value → DH → Prop} (a : PK h pb lv l n) (hm : 0 < m)
    (K : ∀ r n' h', r < m → PK h' pb lv l n' → KS h.n [97] [] h h' → Z (.int .i64 ((r : Nat) : Int)) h') : CP Try.prog 45 [.pointer (some ⟨pb, 0, none⟩), .int .i64 (m : Int)] h Z := by
  have a0 := a
  obtain ⟨md, h1, h2, h3, h4, h5, h6⟩ := a
  apply R45
  have hlen : (byteRows l).length = l.length := by simp [byteRows]
  simp only [nilc_ptr, obP_some, fa_ptr, Nat.zero_add, ld1_has h2 (o := 1) (v := .int .i64 (n : Int)) rfl, ld1_has h2 (o := 0) (v := lv) rfl, h3.len, hlen, ibin_geq, asB_bool]
  by_cases hn : n < l.length
  · rw [show decide ((l.length : Int) ≤ (n : Int)) = false from by simp; omega]
    rw [bP_false, ibin_inc (by omega), obP_some]
    refine st_ok (c' := [lv, .int .i64 ((n + 1 : Nat) : Int)]) h2 h1 rfl rfl rfl (by simp) rfl rfl ?_
    have f : KS h.n [97] [] h (h.upd pb (.cells [lv, .int .i64 ((n + 1 : Nat) : Int)] 97 md)) := KS.updO _ h2 (by simp)
    have g2 : Has (h.upd pb (.cells [lv, .int .i64 ((n + 1 : Nat) : Int)] 97 md)) pb (.cells [lv, .int .i64 ((n + 1 : Nat) : Int)] 97 md) := h2.upd_self _
    generalize h.upd pb (.cells [lv, .int .i64 ((n + 1 : Nat) : Int)] 97 md) = h' at f g2 ⊢
    have g3 : RowsAt h' lv 5 1 (byteRows l) := h3.ks f (by decide) (by decide)
    have hj : (byteRows l)[n]? = some [.int .u8 ((l[n] : Nat) : Int)] := by simp [byteRows, hn]
    obtain ⟨b, q, c, md', k1, k2, k3, k4, k5, k6⟩ := g3.at_ (k := .i64) hj
    have k7 := k6 0 (by omega)
    simp only [Nat.add_zero] at k7
    simp only [ld1_has g2 (o := 1) (v := .int .i64 ((n + 1 : Nat) : Int)) rfl, ld1_has g2 (o := 0) (v := lv) rfl, obP_some, ibin_dec (n := n) (by omega), k1, ld1_has k3 k7]
    have hb := h6 l[n] (List.getElem_mem hn)
    rw [cvI_u8 hb, obP_some, idiv_rem hm, obP_some]
    exact K _ _ _ (Nat.mod_lt _ hm) ⟨md, h1, g2, g3, hn, h5, h6⟩ f
  · rw [show decide ((l.length : Int) ≤ (n : Int)) = true from by simp; omega]
    rw [bP_true]
    exact K 0 n h hm a0 (KS.refl _ _ _ _)
theorem made_ok {h : DH} {lv : Value} {l : List Nat} {Z : Value → DH → Prop} (a : RowsAt h lv 5 1 (byteRows l)) (hl : l.length < 1000000) (hb : ∀ b, b ∈ l → b < 256)
    (K : ∀ h', PK h' h.n lv l 0 → Ext h h' → Z (.pointer (some ⟨h.n, 0, none⟩)) h') : CP Try.prog 15 [lv] h Z := by
  apply R15
  have hlv : isTup lv = false ∧ isTopv lv = false ∧ cellsOfV lv = [lv] := by
    rcases a with ⟨rfl, _⟩ | ⟨b, o, cap, pre, post, md, rfl, _⟩ <;> exact ⟨rfl, rfl, rfl⟩
  have hbld : bld [(Value.slice none 0 0), (Value.int .i64 0)] [((0, 1), lv)] = some (.agg ⟨[lv, .int .i64 0]⟩) := by
    show guard' (sel (sel (isTopv lv) false true) true false) (ob (guard' (sel (isTup lv) false (sel (Nat.beq (llen (cellsOfV lv)) 1) true false)) (some (splice _ 0 (cellsOfV lv)))) _) = _
    rw [hlv.1, hlv.2.1, hlv.2.2]; rfl
  rw [hbld, obP_some]
  refine bx_ok rfl rfl ?_
  have f : Ext h (h.push (.cells [lv, .int .i64 0] 97 .exact)) := Ext.push _ _
  exact K _ ⟨.exact, rfl, Has.push_self _ _, a.ext f, Nat.zero_le _, hl, hb⟩ f
end Go.Det
end
/- Grammars as a heap of the reading has them. -/
set_option linter.unusedVariables false
set_option linter.unusedSimpArgs false
noncomputable section
namespace Go.Det
open Go.Proofs

def Rows2 {α : Type} (R : List Value → α → Prop) : List (List Value) → List α → Prop
  | [], [] => True
  | a :: l, b :: m => R a b ∧ Rows2 R l m
  | _, _ => False
section
variable {α : Type} {R R' : List Value → α → Prop}
theorem Rows2.len : ∀ {l : List (List Value)} {m : List α}, Rows2 R l m → l.length = m.length
  | [], [], _ => rfl
  | _ :: _, _ :: _, h => congrArg (· + 1) (Rows2.len h.2)
  | [], _ :: _, h => h.elim
  | _ :: _, [], h => h.elim
theorem Rows2.mono (i : ∀ a b, R a b → R' a b) : ∀ {l : List (List Value)} {m : List α}, Rows2 R l m → Rows2 R' l m
  | [], [], _ => trivial
  | _ :: _, _ :: _, h => ⟨i _ _ h.1, Rows2.mono i h.2⟩
  | [], _ :: _, h => h.elim
  | _ :: _, [], h => h.elim
theorem Rows2.snoc : ∀ {l : List (List Value)} {m : List α} {a : List Value} {b : α}, Rows2 R l m → R a b → Rows2 R (l ++ [a]) (m ++ [b])
  | [], [], _, _, _, k => ⟨k, trivial⟩
  | _ :: _, _ :: _, _, _, h, k => ⟨h.1, Rows2.snoc h.2 k⟩
  | [], _ :: _, _, _, h, _ => h.elim
  | _ :: _, [], _, _, h, _ => h.elim
theorem Rows2.get : ∀ {l : List (List Value)} {m : List α} {j : Nat} {b : α}, Rows2 R l m → m[j]? = some b → ∃ a, l[j]? = some a ∧ R a b
  | [], [], j, b, _, k => by simp at k
  | a :: l, c :: m, j, b, h, k => by
    cases j with
    | zero => simp at k; subst k; exact ⟨a, rfl, h.1⟩
    | succ j =>
      obtain ⟨x, h1, h2⟩ := Rows2.get (j := j) h.2 (by simpa using k)
      exact ⟨x, by simpa using h1, h2⟩
  | [], _ :: _, _, _, h, _ => h.elim
  | _ :: _, [], _, _, h, _ => h.elim
end

structure Sy where
  tok : Bool
  at_ : Nat
deriving DecidableEq
structure Tk where
  name : ByteArray
  rex : ByteArray
  skip : Bool
structure Ntm where
  name : ByteArray
  inh : List ByteArray
  syn : List ByteArray
structure Pd where
  left : Nat
  right : List Sy
structure Gm where
  toks : List Tk
  nts : List Ntm
  prods : List Pd
def symCells (s : Sy) : List Value := [.bool s.tok, .int .i64 (s.at_ : Int)]
def tokCells (t : Tk) : List Value := [.string t.name, .string t.rex, .bool t.skip]
def strRows (l : List ByteArray) : List (List Value) := l.map fun s => [.string s]
def isSlV : Value → Bool
  | .slice none 0 0 => true
  | .slice (some _) _ _ => true
  | _ => false
def NtRow (h : DH) (row : List Value) (t : Ntm) : Prop := ∃ iv sv, row = [.string t.name, iv, sv] ∧ RowsAt h iv 9 1 (strRows t.inh) ∧ RowsAt h sv 9 1 (strRows t.syn)
def PdRow (h : DH) (row : List Value) (p : Pd) : Prop := ∃ rv uv, row = [.int .i64 (p.left : Int), rv, uv] ∧ RowsAt h rv 90 2 (p.right.map symCells) ∧ isSlV uv = true
theorem RowsAt.isSl {h : DH} {v : Value} {e : TypeId} {s : Nat} {rows : List (List Value)} (a : RowsAt h v e s rows) : isSlV v = true := by
  rcases a with ⟨rfl, _⟩ | ⟨b, o, cap, pre, post, md, rfl, _⟩ <;> rfl
theorem isSl_facts {v : Value} (h : isSlV v = true) : okCell v = true ∧ isTup v = false ∧ isTopv v = false ∧ cellsOfV v = [v] := by
  unfold isSlV at h
  split at h
  · exact ⟨rfl, rfl, rfl, rfl⟩
  · exact ⟨rfl, rfl, rfl, rfl⟩
  · cases h
theorem NtRow.ks {n0 : Nat} {o ts : List Nat} {h h' : DH} {row : List Value} {t : Ntm} (a : NtRow h row t) (f : KS n0 o ts h h') (h1 : 9 ∉ o) (h2 : 9 ∉ ts) : NtRow h' row t := by
  obtain ⟨iv, sv, e, g1, g2⟩ := a
  exact ⟨iv, sv, e, g1.ks f h1 h2, g2.ks f h1 h2⟩
theorem PdRow.ks {n0 : Nat} {o ts : List Nat} {h h' : DH} {row : List Value} {t : Pd} (a : PdRow h row t) (f : KS n0 o ts h h') (h1 : 90 ∉ o) (h2 : 90 ∉ ts) : PdRow h' row t := by
  obtain ⟨iv, sv, e, g1, g2⟩ := a
  exact ⟨iv, sv, e, g1.ks f h1 h2, g2⟩
/-- A grammar, laid out. -/
def GmAt (h : DH) (v : Value) (g : Gm) : Prop :=
  ∃ tv nv pv, v = .agg ⟨[tv, nv, pv]⟩ ∧ RowsAt h tv 99 3 (g.toks.map tokCells) ∧ (∃ nr, RowsAt h nv 101 3 nr ∧ Rows2 (NtRow h) nr g.nts) ∧ ∃ pr, RowsAt h pv 37 3 pr ∧ Rows2 (PdRow h) pr g.prods
theorem GmAt.ks {n0 : Nat} {o ts : List Nat} {h h' : DH} {v : Value} {g : Gm} (a : GmAt h v g) (f : KS n0 o ts h h') (h1 : ∀ x, x ∈ [99, 101, 37, 90, 9] → x ∉ o ∧ x ∉ ts) : GmAt h' v g := by
  obtain ⟨tv, nv, pv, e, g1, ⟨nr, g2, g3⟩, pr, g4, g5⟩ := a
  have k (x : Nat) (hx : x ∈ [99, 101, 37, 90, 9]) := h1 x hx
  exact ⟨tv, nv, pv, e, g1.ks f (k 99 (by simp)).1 (k 99 (by simp)).2, ⟨nr, g2.ks f (k 101 (by simp)).1 (k 101 (by simp)).2, g3.mono fun a b hab => hab.ks f (k 9 (by simp)).1 (k 9 (by simp)).2⟩, pr, g4.ks f (k 37 (by simp)).1 (k 37 (by simp)).2, g5.mono fun a b hab => hab.ks f (k 90 (by simp)).1 (k 90 (by simp)).2⟩
theorem GmAt.out {o ts : List Nat} {h h' : DH} {v : Value} {g : Gm} (a : GmAt h v g) (f : KS h.n o ts h h') (h1 : ∀ x, x ∈ [99, 101, 37, 90, 9] → x ∉ o) : GmAt h' v g := a.ks (n0 := h.n) f.out fun x hx => ⟨h1 x hx, by simp⟩
theorem GmAt.ext {h h' : DH} {v : Value} {g : Gm} (a : GmAt h v g) (f : Ext h h') : GmAt h' v g := a.ks (n0 := 0) (o := []) (ts := []) (KS.ext f) (by simp)

/-! ### A slice in a field, one row longer -/
theorem field_push {h : DH} {n0 b k e by_ s : Nat} {et : TypeId} {md : Md} {c : List Value} {sl r : Value} {z : List Value} {rows : List (List Value)} {cs : List Value} {F : Value → DH → Prop}
    (hb : Has h b (.cells c et md)) (hm : isRo md = false) (hk : c[k]? = some sl) (hg : Grow h sl e s rows n0) (hn0 : n0 ≤ h.n) (hne : et ≠ e)
    (hz : z.length = s) (h1 : isTup r = false) (h2 : isTopv r = false) (hcs : cellsOfV r = cs) (hl : cs.length = s) (hok : lall okCell cs = true) (hs : Nat.ble (Nat.mul 1 s) (2 ^ 24) = true) (hr : room (rows.length + 1) by_ s = true)
    (K : ∀ v' h', Has h' b (.cells (c.set k v') et md) → Grow h' v' e s (rows ++ [cs]) n0 → Kp h h' (fun x => x = b ∨ x ∈ blockOf sl) → F v' h') :
    oh (bldSl e s 1 z [((0, s), r)] h) fun x h25 => oh (appS e by_ s h25 sl x) fun v' h27 => obP (st 1 h27 (.pointer (some ⟨b, 0 + k, none⟩)) v') fun h29 => F v' h29 := by
  have hfill : fillE [((0, s), r)] (lrep z 1) = some cs := by
    have hz1 : lrep z 1 = z := by show lapp z [] = z; rw [lapp_eq]; simp
    rw [hz1]
    show guard' (sel (isTup r) false (sel (Nat.beq (llen (cellsOfV r)) s) (Nat.ble (Nat.add 0 s) (llen z)) false)) (some (splice z 0 (cellsOfV r))) = _
    rw [h1, hcs, llen_eq, llen_eq, hl, hz, Nat.beq_refl, sel_false, sel_true, show Nat.ble (Nat.add 0 s) s = true from Nat.ble_eq_true_of_le (by show 0 + s ≤ s; omega), guard'_true, splice_eq z 0 cs (by omega)]
    simp [hl, hz]
  refine bldSl_ok (by show sel (sel (isTopv r) false true) true false = true; rw [h2]; rfl) hs hfill ?_
  have x1 : Ext h (h.push (.cells cs e .exact)) := Ext.push _ _
  have hx : Has (h.push (.cells cs e .exact)) h.n (.cells cs e .exact) := Has.push_self _ _
  have hxr : RowsAt (h.push (.cells cs e .exact)) (.slice (some ⟨h.n, 0, none⟩) 1 1) e s [cs] := .inr ⟨h.n, 0, 1, [], [], .exact, rfl, Nat.le_refl _, by simpa using hx, rfl, by simpa using hl⟩
  have hg1 := hg.ext x1
  have hb1 := hb.ext x1
  generalize hH : h.push (.cells cs e .exact) = h1' at x1 hx hxr hg1 hb1 ⊢
  refine appS_grow hg1 (Nat.le_trans hn0 x1.n) hxr.appended (by simpa using hl) (by simpa using hok) hr ?_
  intro v' h2 g1 g2 g3
  have hnb : ¬ b ∈ blockOf sl := by
    intro hbs
    rcases hg1 with ⟨rfl, _⟩ | ⟨b', md', rfl, _, q2, _, _⟩
    · simp [blockOf] at hbs
    · simp [blockOf] at hbs; subst hbs
      have := q2.inj hb1
      simp only [DBlk.cells.injEq] at this
      exact hne this.2.1.symm
  have hb2 : Has h2 b (.cells c et md) := hb1.kp g2 hnb
  have hkl : k < c.length := (List.getElem?_eq_some_iff.1 hk).1
  have sf := isSl_facts g1.rows.isSl
  have hset : c.set k v' = c.take (0 + k) ++ cellsOfV v' ++ c.drop (0 + k + 1) := by
    rw [sf.2.2.2, Nat.zero_add, List.set_eq_take_append_cons_drop, if_pos hkl]; simp
  refine st_ok (c' := c.set k v') hb2 hm sf.2.1 sf.2.2.1 (by rw [sf.2.2.2]; rfl) (by omega) (by rw [sf.2.2.2]; show sel (okCell v') true false = true; rw [sf.1]; rfl) hset ?_
  refine K v' _ (hb2.upd_self _) (g1.kp (Kp.upd (S := (· = b)) _ (.inl rfl)) ?_) ?_
  · rintro x hx' rfl
    rcases g1 with ⟨rfl, _⟩ | ⟨b', md', rfl, _, q2, _, _⟩
    · simp [blockOf] at hx'
    · simp [blockOf] at hx'; subst hx'
      have := q2.inj hb2
      simp only [DBlk.cells.injEq] at this
      exact hne this.2.1.symm
  · refine Kp.trans (h1 := h1') (Kp.mono x1 fun _ h => h.elim) (Kp.trans (Kp.mono g2 fun _ h => .inr h) (Kp.upd _ (.inl (.inl rfl))))
end Go.Det
end
/- Rules of a made grammar: that there are some. -/
set_option linter.unusedVariables false
set_option linter.unusedSimpArgs false
noncomputable section
namespace Go.Det
open Go.Proofs

def OkRow (n : Nat) (r : List Value) : Prop := r.length = n ∧ lall okCell r = true
theorem lall_append {α : Type} (f : α → Bool) (l m : List α) : lall f (l ++ m) = (lall f l && lall f m) := by simp [lall_eq]
theorem con_ok {h : DH} {cs : List Value} {Z : Value → DH → Prop} (hc : OkRow 4 cs) (K : ∀ r h', OkRow 8 r → Ext h h' → Z (.agg ⟨r⟩) h') : CP Try.prog 69 [.agg ⟨cs⟩] h Z := by
  apply R69
  obtain ⟨x0, x1, x2, x3, rfl⟩ : ∃ x0 x1 x2 x3, cs = [x0, x1, x2, x3] := by
    obtain ⟨hl, _⟩ := hc
    match cs, hl with
    | [x0, x1, x2, x3], _ => exact ⟨x0, x1, x2, x3, rfl⟩
  have hok := hc.2
  refine bx_ok rfl rfl ?_
  have e1 := Ext.push h (.cells (cellsOfV (.agg ⟨[x0, x1, x2, x3]⟩)) 131 .exact)
  have g1 : Has (h.push (.cells (cellsOfV (.agg ⟨[x0, x1, x2, x3]⟩)) 131 .exact)) h.n (.cells [x0, x1, x2, x3] 131 .exact) := Has.push_self _ _
  generalize h.push (.cells (cellsOfV (.agg ⟨[x0, x1, x2, x3]⟩)) 131 .exact) = h1 at e1 g1 ⊢
  rw [al_ok, oh_some]
  refine obP_of (ldN_has (l := [x0, x1, x2, x3]) (g1.ext (Ext.push _ _)) rfl) ?_
  refine obP_of (a := .agg ⟨[.int .i64 0, x0, x1, x2, x3, .int .i64 0, .int .i64 0, .slice none 0 0]⟩) rfl ?_
  refine st_ok (c' := [.int .i64 0, x0, x1, x2, x3, .int .i64 0, .int .i64 0, .slice none 0 0]) (Has.push_self _ _) rfl rfl rfl rfl (by simp) ?_ rfl ?_
  · show lall okCell [_, _, _, _, _, _, _, _] = true
    rw [show ([Value.int .i64 0, x0, x1, x2, x3, .int .i64 0, .int .i64 0, .slice none 0 0] : List Value) = [.int .i64 0] ++ [x0, x1, x2, x3] ++ [.int .i64 0, .int .i64 0, .slice none 0 0] from rfl, lall_append, lall_append, hok]; rfl
  · refine obP_of (ldN_has (l := [.int .i64 0, x0, x1, x2, x3, .int .i64 0, .int .i64 0, .slice none 0 0]) (Has.upd_self (Has.push_self _ _) _) rfl) ?_
    refine K _ _ ⟨rfl, ?_⟩ ?_
    · rw [show ([Value.int .i64 0, x0, x1, x2, x3, .int .i64 0, .int .i64 0, .slice none 0 0] : List Value) = [.int .i64 0] ++ [x0, x1, x2, x3] ++ [.int .i64 0, .int .i64 0, .slice none 0 0] from rfl, lall_append, lall_append, hok]; rfl
    · exact (e1.trans (Ext.push _ _)).trans' (Kp.upd (S := fun b => h1.n ≤ b) _ (.inl (Nat.le_refl _))) fun x hx => .inr (Nat.le_trans e1.n hx)
theorem ref_ok {h : DH} {a b : Int} {Z : Value → DH → Prop} (K : ∀ r h', OkRow 8 r → Ext h h' → Z (.agg ⟨r⟩) h') : CP Try.prog 70 [.int .i64 a, .int .i64 b] h Z := by
  apply R70
  rw [al_ok, oh_some]
  refine obP_of (a := .agg ⟨[.int .i64 1, .int .i64 0, .int .i64 0, .string ⟨#[]⟩, .slice none 0 0, .int .i64 a, .int .i64 b, .slice none 0 0]⟩) rfl ?_
  refine st_ok (c' := [.int .i64 1, .int .i64 0, .int .i64 0, .string ⟨#[]⟩, .slice none 0 0, .int .i64 a, .int .i64 b, .slice none 0 0]) (Has.push_self _ _) rfl rfl rfl rfl (by simp) rfl rfl ?_
  refine obP_of (ldN_has (l := [.int .i64 1, .int .i64 0, .int .i64 0, .string ⟨#[]⟩, .slice none 0 0, .int .i64 a, .int .i64 b, .slice none 0 0]) (Has.upd_self (Has.push_self _ _) _) rfl) ?_
  exact K _ _ ⟨rfl, rfl⟩ ((Ext.push _ _).trans' (Kp.upd (S := fun b => h.n ≤ b) _ (.inl (Nat.le_refl _))) fun x hx => .inr hx)

/-- What a grammar's nonterminals are, alone. -/
def NtsAt (h : DH) (v : Value) (nts : List Ntm) : Prop := ∃ tv nv pv, v = .agg ⟨[tv, nv, pv]⟩ ∧ isSlV tv = true ∧ isSlV pv = true ∧ ∃ nr, RowsAt h nv 101 3 nr ∧ Rows2 (NtRow h) nr nts
theorem NtsAt.ks {n0 : Nat} {o ts : List Nat} {h h' : DH} {v : Value} {nts : List Ntm} (a : NtsAt h v nts) (f : KS n0 o ts h h') (h1 : 101 ∉ o) (h2 : 101 ∉ ts) (h3 : 9 ∉ o) (h4 : 9 ∉ ts) : NtsAt h' v nts := by
  obtain ⟨tv, nv, pv, e, e1, e2, nr, g2, g3⟩ := a
  exact ⟨tv, nv, pv, e, e1, e2, nr, g2.ks f h1 h2, g3.mono fun a b hab => hab.ks f h3 h4⟩
/-- A grammar as a parameter lies in a block. -/
theorem NtsAt.boxed {h : DH} {v : Value} {nts : List Ntm} (a : NtsAt h v nts) {F : Value → DH → Prop} (K : ∀ h' tv nv pv nr, v = .agg ⟨[tv, nv, pv]⟩ → Has h' h.n (.cells [tv, nv, pv] 28 .exact) → RowsAt h' nv 101 3 nr → Rows2 (NtRow h') nr nts → Ext h h' → F (.pointer (some ⟨h.n, 0, none⟩)) h') : oh (bx 28 h v) F := by
  obtain ⟨tv, nv, pv, rfl, e1, e2, nr, g2, g3⟩ := a
  refine bx_ok rfl rfl ?_
  have e := Ext.push h (.cells [tv, nv, pv] 28 .exact)
  exact K _ tv nv pv nr rfl (Has.push_self _ _) (g2.ext e) (g3.mono fun a b hab => hab.ks (n0 := 0) (o := []) (ts := []) (KS.ext e) (by simp) (by simp)) e
theorem GmAt.nts {h : DH} {v : Value} {g : Gm} (a : GmAt h v g) : NtsAt h v g.nts := by
  obtain ⟨tv, nv, pv, e, g1, g2, pr, g3, _⟩ := a
  exact ⟨tv, nv, pv, e, g1.isSl, g3.isSl, g2⟩
theorem strRows_len (l : List ByteArray) : (strRows l).length = l.length := by simp [strRows]
theorem count_ok {h : DH} {v : Value} {nts : List Ntm} {n : Nat} {t : Ntm} {Z : Value → DH → Prop} (a : NtsAt h v nts) (hn : nts[n]? = some t) (ht : t.inh.length + t.syn.length < 1000000)
    (K : ∀ h', Ext h h' → Z (.int .i64 ((t.inh.length + t.syn.length : Nat) : Int)) h') : CP Try.prog 102 [v, .int .i64 (n : Int)] h Z := by
  apply R102
  refine a.boxed fun h' tv nv pv nr _ hb hr h2 e => ?_
  obtain ⟨row, hj, iv, sv, rfl, hi, hs⟩ := h2.get hn
  have hlt : n < nr.length := (List.getElem?_eq_some_iff.1 hj).1
  obtain ⟨b, q, c, md, k1, k2, k3, k4, k5, k6⟩ := hr.at_ (k := .i64) hj
  simp only [ibin_lss, obP_some, gotB_false, show decide ((n : Int) < 0) = false from by simp, Bool.not_false, g1_true, fa_ptr, Nat.zero_add, ld1_has hb (o := 1) (v := nv) rfl, hr.len, sel_true, ibin_geq, pk_bool, sel_false, asB_bool,
    show decide ((nr.length : Int) ≤ (n : Int)) = false from by simp; omega, bP_false, k1, ld1_has k3 (k6 1 (by omega)), ld1_has k3 (k6 2 (by omega)), List.getElem?_cons_succ, List.getElem?_cons_zero, hi.len, hs.len, strRows_len]
  rw [ibin_addN (by omega), obP_some]
  exact K _ e
theorem isInh_ok {h : DH} {v : Value} {nts : List Ntm} {n x : Nat} {t : Ntm} {Z : Value → DH → Prop} (a : NtsAt h v nts) (hn : nts[n]? = some t)
    (K : ∀ h', Ext h h' → Z (.bool (decide (x < t.inh.length))) h') : CP Try.prog 103 [v, .int .i64 (n : Int), .int .i64 (x : Int)] h Z := by
  apply R103
  refine a.boxed fun h' tv nv pv nr _ hb hr h2 e => ?_
  obtain ⟨row, hj, iv, sv, rfl, hi, hs⟩ := h2.get hn
  have hlt : n < nr.length := (List.getElem?_eq_some_iff.1 hj).1
  obtain ⟨b, q, c, md, k1, k2, k3, k4, k5, k6⟩ := hr.at_ (k := .i64) hj
  simp only [ibin_geq, obP_some, gotB_true, show decide ((0 : Int) ≤ (n : Int)) = true from by simp, show decide ((0 : Int) ≤ (x : Int)) = true from by simp, g1_true, fa_ptr, Nat.zero_add, ld1_has hb (o := 1) (v := nv) rfl, hr.len, sel_true, ibin_lss, pk_bool, sel_false, asB_bool,
    show decide ((n : Int) < (nr.length : Int)) = true from by simp; omega, k1, ld1_has k3 (k6 1 (by omega)), List.getElem?_cons_succ, List.getElem?_cons_zero, hi.len, strRows_len]
  have := K h' e
  rw [show decide ((x : Int) < (t.inh.length : Int)) = decide (x < t.inh.length) from by simp]
  exact this
theorem eq_bool (xo yo : Operand) (a b : Bool) : dbin Try.prog .eql 4 xo yo (.bool a) (.bool b) = some (.bool (a == b)) := by
  cases a <;> cases b <;> kernel_rfl
end Go.Det
end
/- Rules of a made grammar, walked. -/
set_option linter.unusedVariables false
set_option linter.unusedSimpArgs false
noncomputable section
namespace Go.Det
open Go.Proofs

def OkRows (n : Nat) (rows : List (List Value)) : Prop := ∀ r, r ∈ rows → OkRow n r
theorem OkRows.snoc {n : Nat} {rows : List (List Value)} {r : List Value} (a : OkRows n rows) (b : OkRow n r) : OkRows n (rows ++ [r]) := by
  intro x hx
  rcases List.mem_append.1 hx with h | h
  · exact a x h
  · simp at h; subst h; exact b
/-- What stays while rules are made. -/
structure RS (n0 : Nat) (h0 h : DH) (pb b4 b5 : Nat) (lv : Value) (l : List Nat) (tv nv pv uv rv : Value) (nts : List Ntm) (right : List Sy) (left : Nat) : Prop where
  pk : ∃ n, PK h pb lv l n
  n4 : Has h b4 (.cells [tv, nv, pv] 28 .exact)
  n5 : Has h b5 (.cells [.int .i64 (left : Int), rv, uv] 37 .exact)
  nt : NtsAt h (.agg ⟨[tv, nv, pv]⟩) nts
  rt : RowsAt h rv 90 2 (right.map symCells)
  ks : KS n0 [97] [134, 137] h0 h
theorem RS.ks' {n0 : Nat} {h0 h h' : DH} {pb b4 b5 : Nat} {lv : Value} {l : List Nat} {tv nv pv uv rv : Value} {nts : List Ntm} {right : List Sy} {left : Nat} (a : RS n0 h0 h pb b4 b5 lv l tv nv pv uv rv nts right left) (f : KS n0 [97] [134, 137] h h') (hp : ∃ n, PK h' pb lv l n) :
    RS n0 h0 h' pb b4 b5 lv l tv nv pv uv rv nts right left :=
  ⟨hp, a.n4.ks f (by decide) (by decide), a.n5.ks f (by decide) (by decide), a.nt.ks f (by decide) (by decide) (by decide) (by decide), a.rt.ks f (by decide) (by decide), a.ks.trans f⟩
theorem RS.ks0 {n0 : Nat} {h0 h h' : DH} {pb b4 b5 : Nat} {lv : Value} {l : List Nat} {tv nv pv uv rv : Value} {nts : List Ntm} {right : List Sy} {left : Nat} (a : RS n0 h0 h pb b4 b5 lv l tv nv pv uv rv nts right left) (f : KS n0 [] [134, 137] h h') :
    RS n0 h0 h' pb b4 b5 lv l tv nv pv uv rv nts right left := by
  obtain ⟨n, hp⟩ := a.pk
  exact a.ks' (f.mono (by simp) (by simp)) ⟨n, hp.ks f (by decide) (by decide) (by decide) (by decide)⟩
theorem RS.ext {n0 : Nat} {h0 h h' : DH} {pb b4 b5 : Nat} {lv : Value} {l : List Nat} {tv nv pv uv rv : Value} {nts : List Ntm} {right : List Sy} {left : Nat} (a : RS n0 h0 h pb b4 b5 lv l tv nv pv uv rv nts right left) (f : Ext h h') :
    RS n0 h0 h' pb b4 b5 lv l tv nv pv uv rv nts right left := a.ks0 (KS.ext f)

section
variable {n0 : Nat} {h0 : DH} {pb b4 b5 : Nat} {lv : Value} {l : List Nat} {tv nv pv uv rv : Value} {nts : List Ntm} {right : List Sy} {left : Nat} {Z : Value → DH → Prop}
theorem toExt' {n0 : Nat} {h h' : DH} {e s : Nat} {sl : Value} {rows : List (List Value)} {o ts : List Nat} (g : Grow h sl e s rows n0) (f : Kp h h' (fun x => x ∈ blockOf sl)) (he : e ∈ ts) : KS n0 o ts h h' := KS.grow g f he

/-- The inner choice: an expression that grows. -/
theorem rules5 (i : Nat)
    (next : ∀ outs (o' : Value) ins (i' : Value) h', RS n0 h0 h' pb b4 b5 lv l tv nv pv uv rv nts right left → Grow h' o' 137 10 outs n0 → OkRows 10 outs → Grow h' i' 134 8 ins n0 → OkRows 8 ins → i < outs.length → outs.length < 1000000 → ins.length < 1000000 → n0 ≤ h'.n → A51_3 (.pointer (some ⟨pb, 0, none⟩)) o' i' (.int .i64 ((i + 1 : Nat) : Int)) h' Z)
    (k : Nat) : ∀ (b13 : Nat) cs outs (o' : Value) ins (i' : Value) h, RS n0 h0 h pb b4 b5 lv l tv nv pv uv rv nts right left → n0 ≤ b13 → Has h b13 (.cells cs 134 .exact) → b13 ∉ blockOf i' → OkRow 8 cs → Grow h o' 137 10 outs n0 → OkRows 10 outs → Grow h i' 134 8 ins n0 → OkRows 8 ins → i < outs.length → outs.length < 1000000 → ins.length < 1000000 → k < 1000000 → n0 ≤ h.n →
      A51_5 (.pointer (some ⟨pb, 0, none⟩)) o' i' (.int .i64 (i : Int)) (.pointer (some ⟨b13, 0, none⟩)) (.int .i64 (k : Int)) h Z := by
  -- what stands behind the loop
  have fin : ∀ (b13 : Nat) cs outs (o' : Value) ins (i' : Value) h, RS n0 h0 h pb b4 b5 lv l tv nv pv uv rv nts right left → Has h b13 (.cells cs 134 .exact) → OkRow 8 cs → Grow h o' 137 10 outs n0 → OkRows 10 outs → Grow h i' 134 8 ins n0 → OkRows 8 ins → i < outs.length → outs.length < 1000000 → ins.length < 1000000 → n0 ≤ h.n →
      (obP (ldN 8 h (.pointer (some ⟨b13, 0, none⟩))) fun v109_94 => obP (iaS 10 o' (.int .i64 (i : Int))) fun v110_95 => obP (fa 2 v110_95) fun v111_96 => obP (st 8 h v111_96 v109_94) fun h97 => obP (ibin .add (.int .i64 (i : Int)) (Value.int .i64 1)) fun v76_98 => A51_3 (.pointer (some ⟨pb, 0, none⟩)) o' i' v76_98 h97 Z) := by
    intro b13 cs outs o' ins i' h a h13 hcs go ho gi hi hlt hol hil hn0
    obtain ⟨c0, c1, c2, c3, c4, c5, c6, c7, rfl⟩ : ∃ c0 c1 c2 c3 c4 c5 c6 c7, cs = [c0, c1, c2, c3, c4, c5, c6, c7] := by
      match cs, hcs.1 with
      | [c0, c1, c2, c3, c4, c5, c6, c7], _ => exact ⟨_, _, _, _, _, _, _, _, rfl⟩
    refine obP_of (ldN_has (l := [c0, c1, c2, c3, c4, c5, c6, c7]) h13 rfl) ?_
    obtain ⟨b, md, k1, k2, k3, k4, k5, k6⟩ := go.place (k := .i64) hlt
    have hr : outs[i]? = some outs[i] := List.getElem?_eq_getElem hlt
    have hro := ho outs[i] (List.getElem_mem hlt)
    rw [k1, obP_some, fa_ptr, obP_some]
    refine Grow.store (cs := [c0, c1, c2, c3, c4, c5, c6, c7]) k2 k3 k4 k5 k6 hr (w := 8) (by omega) rfl rfl rfl rfl hcs.2 ?_
    intro h' g1 _ f
    have fk : KS n0 [] [134, 137] h h' := Kp.mono f fun x hx => .inr ⟨by subst hx; exact k3, by subst hx; exact .of k4 rfl (by simp)⟩
    have fk' : KS n0 [] [137] h h' := Kp.mono f fun x hx => .inr ⟨by subst hx; exact k3, by subst hx; exact .of k4 rfl (by simp)⟩
    rw [ibin_inc (by omega), obP_some]
    refine next _ o' ins i' h' (a.ks0 fk) g1 ?_ (gi.ks fk' (by decide) (by decide)) hi (by simpa using hlt) (by simpa using hol) hil (Nat.le_trans hn0 f.n)
    intro r hr'
    rcases List.mem_or_eq_of_mem_set hr' with h | h
    · exact ho r h
    · subst h
      refine ⟨by simp [hro.1], ?_⟩
      have hall : ∀ x, x ∈ outs[i] → okCell x = true := by have := hro.2; rw [lall_eq, List.all_eq_true] at this; exact this
      rw [lall_append, lall_append, hcs.2]
      have e1 : lall okCell (outs[i].take 2) = true := by rw [lall_eq, List.all_eq_true]; exact fun x hx => hall x (List.mem_of_mem_take hx)
      have e2 : lall okCell (outs[i].drop (2 + 8)) = true := by rw [lall_eq, List.all_eq_true]; exact fun x hx => hall x (List.mem_of_mem_drop hx)
      rw [e1, e2]; rfl
  induction k with
  | zero =>
    intro b13 cs outs o' ins i' h a n13 h13 hne hcs go ho gi hi hlt hol hil _ hn0
    apply R51_5
    simp only [ibin_gtr, obP_some, show decide ((0 : Int) < ((0 : Nat) : Int)) = false from rfl, gotB_true, g1_false, pk_bool, sel_false, asB_bool, bP_false]
    exact fin b13 cs outs o' ins i' h a h13 hcs go ho gi hi hlt hol hil hn0
  | succ k ih =>
    intro b13 cs outs o' ins i' h a n13 h13 hne hcs go ho gi hi hlt hol hil hk hn0
    apply R51_5
    simp only [ibin_gtr, obP_some, show decide ((0 : Int) < ((k + 1 : Nat) : Int)) = true from decide_eq_true (by omega), gotB_true, g1_true, pk_bool, sel_true, asB_bool, gi.rows.len]
    by_cases hz : ins.length = 0
    · simp only [hz, show decide ((0 : Int) < ((0 : Nat) : Int)) = false from rfl, bP_false]
      exact fin b13 cs outs o' ins i' h a h13 hcs go ho gi hi hlt hol hil hn0
    · simp only [show decide ((0 : Int) < (ins.length : Int)) = true from decide_eq_true (by omega), bP_true]
      refine bldSl_ok (cs := [.int .i64 4, .int .i64 7, .int .i64 13, .int .i64 14]) rfl (by decide) rfl ?_
      have e1 := Ext.push h (.cells [.int .i64 4, .int .i64 7, .int .i64 13, .int .i64 14] 3 .exact)
      have q1 : Has (h.push (.cells [.int .i64 4, .int .i64 7, .int .i64 13, .int .i64 14] 3 .exact)) h.n (.cells [.int .i64 4, .int .i64 7, .int .i64 13, .int .i64 14] 3 .exact) := Has.push_self _ _
      have a1 := a.ext e1
      have go1 := go.ext e1
      have gi1 := gi.ext e1
      have h131 := h13.ext e1
      generalize h.push (.cells [.int .i64 4, .int .i64 7, .int .i64 13, .int .i64 14] 3 .exact) = h1 at e1 q1 a1 go1 gi1 h131 ⊢
      obtain ⟨n, hp⟩ := a1.pk
      have hp' : PK (reset h1) pb lv l n := hp
      refine num_ok (m := 4) hp' (by omega) fun r n' h2 hr hp2 f2 => ?_
      have f2 : KS (reset h1).n [97] [] (reset h1) h2 := f2
      have f2' : KS n0 [97] [134, 137] h1 (lowered h2 h1.low) := (f2.lowered.from (n0 := n0) (Nat.le_trans hn0 e1.n)).mono (by simp) (by simp)
      have f2o : KS h1.n [97] [] h1 (lowered h2 h1.low) := f2.lowered
      have a2 := a1.ks' f2' ⟨n', hp2⟩
      have go2 := go1.ks f2o (by decide) (by decide)
      have gi2 := gi1.ks f2o (by decide) (by decide)
      have h132 := h131.ks f2o (by decide) (by decide)
      have q2 := q1.ks f2o (by decide) (by decide)
      have hget2 : ∀ b c e md, Has h1 b (.cells c e md) → e ≠ 97 → h2.get b = h1.get b := fun b c e md hb he => (hb.ks f2o (by simpa using he) (by simp)).2.trans hb.2.symm
      have hp2 : PK (lowered h2 h1.low) pb lv l n' := hp2
      have hia : iaS 1 (.slice (some ⟨h.n, 0, none⟩) 4 4) (.int .i64 (r : Int)) = some (.pointer (some ⟨h.n, r, none⟩)) := by
        show guard' (Nat.blt r 4) (some (Value.pointer (some ⟨h.n, Nat.add 0 (Nat.mul r 1), none⟩))) = _
        rw [show Nat.blt r 4 = true from Nat.ble_eq_true_of_le hr]
        show some (Value.pointer (some ⟨h.n, 0 + r * 1, none⟩)) = _
        rw [Nat.zero_add, Nat.mul_one]
      rw [hia, obP_some]
      obtain ⟨x, hx, hxo⟩ : ∃ x, ([.int .i64 4, .int .i64 7, .int .i64 13, .int .i64 14] : List Value)[r]? = some (.int .i64 x) ∧ True := by
        match r, hr with
        | 0, _ => exact ⟨4, rfl, trivial⟩
        | 1, _ => exact ⟨7, rfl, trivial⟩
        | 2, _ => exact ⟨13, rfl, trivial⟩
        | 3, _ => exact ⟨14, rfl, trivial⟩
      refine obP_of (ld1_has q2 hx) ?_
      obtain ⟨c0, c1, c2, c3, c4, c5, c6, c7, rfl⟩ : ∃ c0 c1 c2 c3 c4 c5 c6 c7, cs = [c0, c1, c2, c3, c4, c5, c6, c7] := by
        match cs, hcs.1 with
        | [c0, c1, c2, c3, c4, c5, c6, c7], _ => exact ⟨_, _, _, _, _, _, _, _, rfl⟩
      refine obP_of (ldN_has (l := [c0, c1, c2, c3, c4, c5, c6, c7]) h132 rfl) ?_
      have foot1 : ∀ bl, (∀ b, b ∈ bl → ∃ c e md, Has h1 b (.cells c e md) ∧ e ≠ 97) → either (callFoot h1 h2) ⟨some bl, .none⟩ = true ∧ either ⟨some bl, .none⟩ (callFoot h1 h2) = true := fun bl hbl => foot_rd fun b hb _ => by
        obtain ⟨c, e, md, hh, he⟩ := hbl b hb
        exact hget2 b c e md hh he
      generalize hH2 : lowered h2 h1.low = H2 at f2' f2o a2 go2 gi2 h132 q2 hp2 ⊢
      have hn2 : n0 ≤ H2.n := Nat.le_trans (Nat.le_trans hn0 e1.n) f2o.n
      have hp2' : PK (reset H2) pb lv l n' := hp2
      refine num_ok (m := ins.length) hp2' (by omega) fun r2 n3 h3 hr2 hp3 f3 => ?_
      have f3 : KS (reset H2).n [97] [] (reset H2) h3 := f3
      have f3' : KS n0 [97] [134, 137] H2 (lowered h3 H2.low) := (f3.lowered.from (n0 := n0) hn2).mono (by simp) (by simp)
      have f3o : KS H2.n [97] [] H2 (lowered h3 H2.low) := f3.lowered
      have a3 := a2.ks' f3' ⟨n3, hp3⟩
      have go3 := go2.ks f3o (by decide) (by decide)
      have gi3 := gi2.ks f3o (by decide) (by decide)
      have h133 := h132.ks f3o (by decide) (by decide)
      have foot2 : ∀ bl, (∀ b, b ∈ bl → ∃ c e md, Has H2 b (.cells c e md) ∧ e ≠ 97) → either (callFoot H2 h3) ⟨some bl, .none⟩ = true ∧ either ⟨some bl, .none⟩ (callFoot H2 h3) = true := fun bl hbl => foot_rd fun b hb _ => by
        obtain ⟨c, e, md, hh, he⟩ := hbl b hb
        exact (hh.ks f3o (by simpa using he) (by simp)).2.trans hh.2.symm
      generalize lowered h3 H2.low = H3 at f3' f3o a3 go3 gi3 h133 ⊢
      have hn3 : n0 ≤ H3.n := Nat.le_trans hn2 f3o.n
      have hir : ins[r2]? = some ins[r2] := List.getElem?_eq_getElem hr2
      obtain ⟨b, q, c, md, k1, k2, k3, k4, k5, k6⟩ := gi3.rows.at_ (k := .i64) hir
      rw [k1, obP_some]
      refine obP_of (ldN_has k3 k4) ?_
      have hro := hi ins[r2] (List.getElem_mem hr2)
      obtain ⟨d0, d1, d2, d3, d4, d5, d6, d7, hd⟩ : ∃ d0 d1 d2 d3 d4 d5 d6 d7, ins[r2] = [d0, d1, d2, d3, d4, d5, d6, d7] := by
        match ins[r2], hro.1 with
        | [c0, c1, c2, c3, c4, c5, c6, c7], _ => exact ⟨_, _, _, _, _, _, _, _, rfl⟩
      rw [hd]
      refine bldSl_ok (cs := [c0, c1, c2, c3, c4, c5, c6, c7, d0, d1, d2, d3, d4, d5, d6, d7]) rfl (by decide) rfl ?_
      have e4 := Ext.push H3 (.cells [c0, c1, c2, c3, c4, c5, c6, c7, d0, d1, d2, d3, d4, d5, d6, d7] 134 .exact)
      have a4 := a3.ext e4
      have go4 := go3.ext e4
      have gi4 := gi3.ext e4
      have h134 := h133.ext e4
      have hnH : (H3.push (.cells [c0, c1, c2, c3, c4, c5, c6, c7, d0, d1, d2, d3, d4, d5, d6, d7] 134 .exact)).n = H3.n + 1 := rfl
      generalize H3.push (.cells [c0, c1, c2, c3, c4, c5, c6, c7, d0, d1, d2, d3, d4, d5, d6, d7] 134 .exact) = H4 at e4 a4 go4 gi4 h134 hnH ⊢
      refine obP_of (a := .agg ⟨[.int .i64 x, .int .i64 0, .int .i64 0, .string ⟨#[]⟩, .slice none 0 0, .int .i64 0, .int .i64 0, .slice (some ⟨H3.n, 0, none⟩) 2 2]⟩) rfl ?_
      refine st_ok (c' := [.int .i64 x, .int .i64 0, .int .i64 0, .string ⟨#[]⟩, .slice none 0 0, .int .i64 0, .int .i64 0, .slice (some ⟨H3.n, 0, none⟩) 2 2]) h134 rfl rfl rfl rfl (by simp) rfl rfl ?_
      have f5 : Kp H4 (H4.upd b13 (.cells [.int .i64 x, .int .i64 0, .int .i64 0, .string ⟨#[]⟩, .slice none 0 0, .int .i64 0, .int .i64 0, .slice (some ⟨H3.n, 0, none⟩) 2 2] 134 .exact)) (· = b13) := Kp.upd _ (.inl rfl)
      have f5' : KS n0 [] [134] H4 (H4.upd b13 (.cells [.int .i64 x, .int .i64 0, .int .i64 0, .string ⟨#[]⟩, .slice none 0 0, .int .i64 0, .int .i64 0, .slice (some ⟨H3.n, 0, none⟩) 2 2] 134 .exact)) := KS.upd _ h134 n13 (by simp)
      have h135 : Has (H4.upd b13 (.cells [.int .i64 x, .int .i64 0, .int .i64 0, .string ⟨#[]⟩, .slice none 0 0, .int .i64 0, .int .i64 0, .slice (some ⟨H3.n, 0, none⟩) 2 2] 134 .exact)) b13 (.cells [.int .i64 x, .int .i64 0, .int .i64 0, .string ⟨#[]⟩, .slice none 0 0, .int .i64 0, .int .i64 0, .slice (some ⟨H3.n, 0, none⟩) 2 2] 134 .exact) := h134.upd_self _
      generalize H4.upd b13 (.cells [.int .i64 x, .int .i64 0, .int .i64 0, .string ⟨#[]⟩, .slice none 0 0, .int .i64 0, .int .i64 0, .slice (some ⟨H3.n, 0, none⟩) 2 2] 134 .exact) = H5 at f5 f5' h135 ⊢
      refine ⟨⟨(foot1 _ ?_).1, (foot1 _ ?_).1, (foot2 _ ?_).2, (foot2 _ ?_).2⟩, ?_⟩
      · intro b hb; simp [blockOf] at hb; subst hb; exact ⟨_, _, _, h131, by decide⟩
      · intro b hb
        rcases gi1 with ⟨rfl, _⟩ | ⟨b', md, rfl, _, g2, _⟩
        · simp [blockOf] at hb
        · simp [blockOf] at hb; subst hb; exact ⟨_, _, _, g2, by decide⟩
      · intro b hb; simp [blockOf] at hb; subst hb; exact ⟨_, _, _, q2, by decide⟩
      · intro b hb; simp [blockOf] at hb; subst hb; exact ⟨_, _, _, h132, by decide⟩
      · rw [ibin_dec (by omega), obP_some]
        refine ih b13 _ outs o' ins i' H5 (a4.ks0 (f5'.mono (by simp) (by simp))) n13 h135 hne ⟨rfl, rfl⟩ (go4.ks f5' (by decide) (by decide)) ho (gi4.kp f5 fun b hb hx => ?_) hi hlt hol hil (by omega) (Nat.le_trans hn3 (Nat.le_trans e4.n f5.n))
        subst hx; exact hne hb

theorem rules3 (hZ : ∀ o' h', isSlV o' = true → (∃ n, PK h' pb lv l n) → KS n0 [97] [134, 137] h0 h' → Z o' h') (m : Nat) :
    ∀ (i : Nat) outs (o' : Value) ins (i' : Value) h, 1000000 - i ≤ m → RS n0 h0 h pb b4 b5 lv l tv nv pv uv rv nts right left → Grow h o' 137 10 outs n0 → OkRows 10 outs → Grow h i' 134 8 ins n0 → OkRows 8 ins → outs.length < 1000000 → ins.length < 1000000 → n0 ≤ h.n →
      A51_3 (.pointer (some ⟨pb, 0, none⟩)) o' i' (.int .i64 (i : Int)) h Z := by
  induction m with
  | zero =>
    intro i outs o' ins i' h hm a go ho gi hi hol hil hn0
    apply R51_3
    simp only [go.rows.len, obP_some, ibin_lss, asB_bool, show decide ((i : Int) < (outs.length : Int)) = false from decide_eq_false (by omega), bP_false]
    exact hZ _ _ go.rows.isSl a.pk a.ks
  | succ m ih =>
    intro i outs o' ins i' h hm a go ho gi hi hol hil hn0
    apply R51_3
    by_cases hlt : i < outs.length
    · simp only [go.rows.len, obP_some, ibin_lss, asB_bool, show decide ((i : Int) < (outs.length : Int)) = true from decide_eq_true (by omega), bP_true]
      obtain ⟨n, hp⟩ := a.pk
      refine num_ok (m := 5) hp (by omega) fun r n' h1 hr hp1 f1 => ?_
      have a1 := a.ks' ((f1.from hn0).mono (by simp) (by simp)) ⟨n', hp1⟩
      have go1 := go.ks f1 (by decide) (by decide)
      have gi1 := gi.ks f1 (by decide) (by decide)
      have hn1 : n0 ≤ h1.n := Nat.le_trans hn0 f1.n
      refine obP_of (a := .agg ⟨[.int .i64 1, .int .i64 (r : Int), .string ⟨#[]⟩, .slice none 0 0]⟩) rfl ?_
      refine con_ok ⟨rfl, rfl⟩ fun cs h2 hcs e2 => ?_
      rw [al_ok, oh_some]
      have e3 : Ext h2 (h2.push (.cells [(Value.int .i64 0), (Value.int .i64 0), (Value.int .i64 0), (Value.string ⟨#[]⟩), (Value.slice none 0 0), (Value.int .i64 0), (Value.int .i64 0), (Value.slice none 0 0)] 134 .exact)) := Ext.push _ _
      have q3 : Has (h2.push (.cells [(Value.int .i64 0), (Value.int .i64 0), (Value.int .i64 0), (Value.string ⟨#[]⟩), (Value.slice none 0 0), (Value.int .i64 0), (Value.int .i64 0), (Value.slice none 0 0)] 134 .exact)) h2.n (.cells [(Value.int .i64 0), (Value.int .i64 0), (Value.int .i64 0), (Value.string ⟨#[]⟩), (Value.slice none 0 0), (Value.int .i64 0), (Value.int .i64 0), (Value.slice none 0 0)] 134 .exact) := Has.push_self _ _
      have a3 := (a1.ext e2).ext e3
      have go3 := (go1.ext e2).ext e3
      have gi2 := gi1.ext e2
      have gi3 := gi2.ext e3
      generalize h2.push (.cells [(Value.int .i64 0), (Value.int .i64 0), (Value.int .i64 0), (Value.string ⟨#[]⟩), (Value.slice none 0 0), (Value.int .i64 0), (Value.int .i64 0), (Value.slice none 0 0)] 134 .exact) = h3 at e3 q3 a3 go3 gi3 ⊢
      have hb3 : h2.n ∉ blockOf i' := fun hb => by have := (gi2.block _ hb).2; omega
      refine st_ok (c' := cs) q3 rfl rfl rfl hcs.1 (by simp) hcs.2 (by simp [cellsOfV]) ?_
      have f4 : Kp h3 (h3.upd h2.n (.cells cs 134 .exact)) (· = h2.n) := Kp.upd _ (.inl rfl)
      have f4' : KS n0 [] [134] h3 (h3.upd h2.n (.cells cs 134 .exact)) := KS.upd _ q3 (Nat.le_trans hn1 e2.n) (by simp)
      have q4 : Has (h3.upd h2.n (.cells cs 134 .exact)) h2.n (.cells cs 134 .exact) := q3.upd_self _
      generalize h3.upd h2.n (.cells cs 134 .exact) = h4 at f4 f4' q4 ⊢
      have a4 := a3.ks0 (f4'.mono (by simp) (by simp))
      have go4 := go3.ks f4' (by decide) (by decide)
      have gi4 : Grow h4 i' 134 8 ins n0 := gi3.kp f4 fun b hb hx => hb3 (hx ▸ hb)
      have hn4 : n0 ≤ h4.n := Nat.le_trans (Nat.le_trans hn1 e2.n) (Nat.le_trans e3.n f4.n)
      obtain ⟨n4, hp4⟩ := a4.pk
      refine num_ok (m := 3) hp4 (by omega) fun r5 n5 h5 hr5 hp5 f5 => ?_
      have a5 := a4.ks' ((f5.from hn4).mono (by simp) (by simp)) ⟨n5, hp5⟩
      exact rules5 i (fun outs o' ins i' h' a go ho gi hi hlt hol hil hn => ih (i + 1) outs o' ins i' h' (by omega) a go ho gi hi hol hil hn) r5 h2.n cs outs o' ins i' h5 a5 (Nat.le_trans hn1 e2.n) (q4.ks f5 (by decide) (by decide)) hb3 hcs (go4.ks f5 (by decide) (by decide)) ho (gi4.ks f5 (by decide) (by decide)) hi hlt hol hil (by omega) (Nat.le_trans hn4 f5.n)
    · simp only [go.rows.len, obP_some, ibin_lss, asB_bool, show decide ((i : Int) < (outs.length : Int)) = false from decide_eq_false (by omega), bP_false]
      exact hZ _ _ go.rows.isSl a.pk a.ks

/-- The choice among a symbol's attributes. -/
theorem rules4 {j n : Nat} {t : Ntm} (hn : nts[n]? = some t) (ht : t.inh.length + t.syn.length ≤ 100)
    (next : ∀ outs (o' : Value) ins (i' : Value) h', RS n0 h0 h' pb b4 b5 lv l tv nv pv uv rv nts right left → Grow h' o' 137 10 outs n0 → OkRows 10 outs → Grow h' i' 134 8 ins n0 → OkRows 8 ins → outs.length + ins.length ≤ (j + 1) * 1000 → n0 ≤ h'.n → A51_1 (.pointer (some ⟨pb, 0, none⟩)) (.pointer (some ⟨b4, 0, none⟩)) (.pointer (some ⟨b5, 0, none⟩)) o' i' (.int .i64 ((j + 1 : Nat) : Int)) h' Z) (hj : j < 1000) (m : Nat) :
    ∀ (x : Nat) outs (o' : Value) ins (i' : Value) h, t.inh.length + t.syn.length - x ≤ m → x ≤ t.inh.length + t.syn.length → RS n0 h0 h pb b4 b5 lv l tv nv pv uv rv nts right left → Grow h o' 137 10 outs n0 → OkRows 10 outs → Grow h i' 134 8 ins n0 → OkRows 8 ins → outs.length + ins.length ≤ j * 1000 + x → n0 ≤ h.n →
      A51_4 (.pointer (some ⟨pb, 0, none⟩)) (.pointer (some ⟨b4, 0, none⟩)) (.pointer (some ⟨b5, 0, none⟩)) o' i' (.int .i64 (j : Int)) (.int .i64 (n : Int)) (.int .i64 (x : Int)) h Z := by
  induction m with
  | zero =>
    intro x outs o' ins i' h hm hx a go ho gi hi hol hn0
    apply R51_4
    refine obP_of (ldN_has (l := [tv, nv, pv]) a.n4 rfl) ?_
    refine count_ok a.nt hn (by omega) fun h1 e1 => ?_
    simp only [ibin_lss, obP_some, asB_bool, show decide ((x : Int) < ((t.inh.length + t.syn.length : Nat) : Int)) = false from decide_eq_false (by omega), bP_false]
    rw [ibin_inc (by omega), obP_some]
    exact next outs o' ins i' h1 (a.ext e1) (go.ext e1) ho (gi.ext e1) hi (by omega) (Nat.le_trans hn0 e1.n)
  | succ m ih =>
    intro x outs o' ins i' h hm hx a go ho gi hi hol hn0
    apply R51_4
    refine obP_of (ldN_has (l := [tv, nv, pv]) a.n4 rfl) ?_
    refine count_ok a.nt hn (by omega) fun h1 e1 => ?_
    have a1 := a.ext e1
    have go1 := go.ext e1
    have gi1 := gi.ext e1
    have hn1 := Nat.le_trans hn0 e1.n
    by_cases hlt : x < t.inh.length + t.syn.length
    · simp only [ibin_lss, obP_some, asB_bool, show decide ((x : Int) < ((t.inh.length + t.syn.length : Nat) : Int)) = true from decide_eq_true (by omega), bP_true, ibin_eql]
      refine obP_of (ldN_has (l := [tv, nv, pv]) a1.n4 rfl) ?_
      refine isInh_ok a1.nt hn fun h2 e2 => ?_
      have a2 := a1.ext e2
      have go2 := go1.ext e2
      have gi2 := gi1.ext e2
      have hn2 := Nat.le_trans hn1 e2.n
      rw [eq_bool, obP_some, asB_bool, obP_some]
      cases (decide ((j : Int) = 0) == decide (x < t.inh.length))
      · rw [bP_false]
        refine obP_of (a := .agg ⟨[.int .i64 (j : Int), .int .i64 (x : Int), .int .i64 0, .int .i64 0, .int .i64 0, .string ⟨#[]⟩, .slice none 0 0, .int .i64 0, .int .i64 0, .slice none 0 0]⟩) rfl ?_
        refine app1 go2 hn2 rfl rfl rfl rfl rfl rfl (by decide) (room_ok (by omega) (by omega) (by omega)) fun v' h3 g3 f3 => ?_
        have fk : KS n0 [] [137] h2 h3 := KS.grow go2 f3 (by simp)
        rw [ibin_inc (by omega), obP_some]
        exact ih (x + 1) _ v' ins i' h3 (by omega) hlt (a2.ks0 (fk.mono (by simp) (by simp))) g3 (ho.snoc ⟨rfl, rfl⟩) (gi2.ks fk (by decide) (by decide)) hi (by simp; omega) (Nat.le_trans hn2 f3.n)
      · rw [bP_true]
        refine ref_ok fun r h3 hr e3 => ?_
        refine app1 (gi2.ext e3) (Nat.le_trans hn2 e3.n) rfl rfl rfl rfl hr.1 hr.2 (by decide) (room_ok (by omega) (by omega) (by omega)) fun v' h4 g4 f4 => ?_
        have fk : KS n0 [] [134] h3 h4 := KS.grow (gi2.ext e3) f4 (by simp)
        rw [ibin_inc (by omega), obP_some]
        exact ih (x + 1) outs o' _ v' h4 (by omega) hlt ((a2.ext e3).ks0 (fk.mono (by simp) (by simp))) ((go2.ext e3).ks fk (by decide) (by decide)) ho g4 (hi.snoc hr) (by simp; omega) (Nat.le_trans (Nat.le_trans hn2 e3.n) f4.n)
    · simp only [ibin_lss, obP_some, asB_bool, show decide ((x : Int) < ((t.inh.length + t.syn.length : Nat) : Int)) = false from decide_eq_false (by omega), bP_false]
      rw [ibin_inc (by omega), obP_some]
      exact next outs o' ins i' h1 a1 go1 ho gi1 hi (by omega) hn1

theorem rules1 (hleft : left < nts.length) (hright : ∀ s, s ∈ right → s.tok = false → s.at_ < nts.length) (hnts : ∀ t, t ∈ nts → t.inh.length + t.syn.length ≤ 100) (hrl : right.length < 100)
    (hZ : ∀ o' h', isSlV o' = true → (∃ n, PK h' pb lv l n) → KS n0 [97] [134, 137] h0 h' → Z o' h') (m : Nat) :
    ∀ (j : Nat) outs (o' : Value) ins (i' : Value) h, right.length + 1 - j ≤ m → j ≤ right.length + 1 → RS n0 h0 h pb b4 b5 lv l tv nv pv uv rv nts right left → Grow h o' 137 10 outs n0 → OkRows 10 outs → Grow h i' 134 8 ins n0 → OkRows 8 ins → outs.length + ins.length ≤ j * 1000 → n0 ≤ h.n →
      A51_1 (.pointer (some ⟨pb, 0, none⟩)) (.pointer (some ⟨b4, 0, none⟩)) (.pointer (some ⟨b5, 0, none⟩)) o' i' (.int .i64 (j : Int)) h Z := by
  have hlen : (right.map symCells).length = right.length := by simp
  induction m with
  | zero =>
    intro j outs o' ins i' h hm hj a go ho gi hi hol hn0
    apply R51_1
    simp only [fa_ptr, obP_some, Nat.zero_add, ld1_has a.n5 (o := 1) (v := rv) rfl, a.rt.len, hlen, ibin_leq, asB_bool, show decide ((j : Int) ≤ (right.length : Int)) = false from decide_eq_false (by omega), bP_false]
    exact rules3 hZ 1000000 0 outs o' ins i' h (by omega) a go ho gi hi (by omega) (by omega) hn0
  | succ m ih =>
    intro j outs o' ins i' h hm hj a go ho gi hi hol hn0
    apply R51_1
    by_cases hle : j ≤ right.length
    · simp only [fa_ptr, obP_some, Nat.zero_add, ld1_has a.n5 (o := 1) (v := rv) rfl, ld1_has a.n5 (o := 0) (v := .int .i64 (left : Int)) rfl, a.rt.len, hlen, ibin_leq, ibin_gtr, asB_bool, show decide ((j : Int) ≤ (right.length : Int)) = true from decide_eq_true (by omega), bP_true]
      have go4 : ∀ (n : Nat) (h' : DH), n < nts.length → A51_4 (.pointer (some ⟨pb, 0, none⟩)) (.pointer (some ⟨b4, 0, none⟩)) (.pointer (some ⟨b5, 0, none⟩)) o' i' (.int .i64 (j : Int)) (.int .i64 (n : Int)) (.int .i64 0) h Z := by
        intro n h' hn
        have hol' : outs.length + ins.length ≤ j * 1000 + 0 := Nat.le_trans hol (Nat.le_add_right _ _)
        exact rules4 (List.getElem?_eq_getElem hn) (hnts _ (List.getElem_mem hn)) (fun outs o' ins i' h' a go ho gi hi hol hn => ih (j + 1) outs o' ins i' h' (by omega) (by omega) a go ho gi hi hol hn) (by omega) _ 0 outs o' ins i' h (Nat.le_refl _) (Nat.zero_le _) a go ho gi hi hol' hn0
      by_cases h0j : 0 < j
      · simp only [show decide ((0 : Int) < (j : Int)) = true from decide_eq_true (by omega), bP_true]
        obtain ⟨j, rfl⟩ : ∃ k, j = k + 1 := ⟨j - 1, by omega⟩
        have hjr : (right.map symCells)[j]? = some (symCells right[j]) := by simp [show j < right.length from by omega]
        obtain ⟨b, q, c, md, k1, k2, k3, k4, k5, k6⟩ := a.rt.at_ (k := .i64) hjr
        have k60 := k6 0 (by omega)
        have k61 := k6 1 (by omega)
        simp only [Nat.add_zero] at k60
        simp only [ibin_dec (n := j) (by omega), obP_some, k1, fa_ptr, Nat.add_zero, ld1_has k3 (k60.trans rfl), ld1_has k3 (k61.trans rfl), asB_bool]
        cases htok : right[j].tok with
        | true =>
          rw [bP_true]
          refine obP_of (a := .agg ⟨[.int .i64 2, .int .i64 0, .int .i64 0, .string ⟨#[]⟩, .slice none 0 0, .int .i64 ((j + 1 : Nat) : Int), .int .i64 0, .slice none 0 0]⟩) rfl ?_
          refine app1 gi hn0 rfl rfl rfl rfl rfl rfl (by decide) (room_ok (by omega) (by omega) (by omega)) fun v' h3 g3 f3 => ?_
          have fk : KS n0 [] [134] h h3 := KS.grow gi f3 (by simp)
          rw [ibin_inc (by omega), obP_some]
          exact ih (j + 1 + 1) outs o' _ v' h3 (by omega) (by omega) (a.ks0 (fk.mono (by simp) (by simp))) (go.ks fk (by decide) (by decide)) ho g3 (hi.snoc ⟨rfl, rfl⟩) (by simp; omega) (Nat.le_trans hn0 f3.n)
        | false =>
          rw [bP_false]
          exact R51_2 (go4 right[j].at_ h (hright _ (List.getElem_mem _) htok))
      · simp only [show decide ((0 : Int) < (j : Int)) = false from decide_eq_false (by omega), bP_false]
        exact R51_2 (go4 left h hleft)
    · simp only [fa_ptr, obP_some, Nat.zero_add, ld1_has a.n5 (o := 1) (v := rv) rfl, a.rt.len, hlen, ibin_leq, asB_bool, show decide ((j : Int) ≤ (right.length : Int)) = false from decide_eq_false (by omega), bP_false]
      exact rules3 hZ 1000000 0 outs o' ins i' h (by omega) a go ho gi hi (by omega) (by omega) hn0
end
theorem rules_ok {h : DH} {pb : Nat} {lv : Value} {l : List Nat} {n : Nat} {v1 rv uv : Value} {nts : List Ntm} {right : List Sy} {left : Nat} {Z : Value → DH → Prop} (hp : PK h pb lv l n) (a : NtsAt h v1 nts) (hr : RowsAt h rv 90 2 (right.map symCells)) (hu : isSlV uv = true)
    (hleft : left < nts.length) (hright : ∀ s, s ∈ right → s.tok = false → s.at_ < nts.length) (hnts : ∀ t, t ∈ nts → t.inh.length + t.syn.length ≤ 100) (hrl : right.length < 100)
    (K : ∀ o' n' h', isSlV o' = true → PK h' pb lv l n' → KS h.n [97] [] h h' → Z o' h') : CP Try.prog 51 [.pointer (some ⟨pb, 0, none⟩), v1, .agg ⟨[.int .i64 (left : Int), rv, uv]⟩] h Z := by
  apply R51
  have hnt := a
  obtain ⟨tv, nv, pv, rfl, e1, e2, nr, g2, g3⟩ := a
  refine bx_ok rfl rfl ?_
  refine bx_ok rfl rfl ?_
  have x1 := Ext.push h (.cells [tv, nv, pv] 28 .exact)
  have x2 := Ext.push (h.push (.cells [tv, nv, pv] 28 .exact)) (.cells [.int .i64 (left : Int), rv, uv] 37 .exact)
  have y1 : Has (h.push (.cells [tv, nv, pv] 28 .exact)) h.n (.cells [tv, nv, pv] 28 .exact) := Has.push_self _ _
  have y2 : Has ((h.push (.cells [tv, nv, pv] 28 .exact)).push (.cells [.int .i64 (left : Int), rv, uv] 37 .exact)) (h.push (.cells [tv, nv, pv] 28 .exact)).n (.cells [.int .i64 (left : Int), rv, uv] 37 .exact) := Has.push_self _ _
  have x3 := x1.trans x2
  refine rules1 (n0 := h.n) (h0 := h) (tv := tv) (nv := nv) (pv := pv) (uv := uv) (rv := rv) (right := right) (left := left) hleft hright hnts hrl (fun o' h' ho hp hk => ?_) (right.length + 1) 0 [] _ [] _ _ (by omega) (by omega) ⟨⟨n, hp.ext x3⟩, y1.ext x2, y2, hnt.ks (n0 := 0) (o := []) (ts := []) (KS.ext x3) (by simp) (by simp) (by simp) (by simp), hr.ext x3, KS.ext x3⟩
    (Grow.nil _ _ _ _) (fun r hr => by simp at hr) (Grow.nil _ _ _ _) (fun r hr => by simp at hr) (by simp) (Nat.le_trans x3.n (Nat.le_refl _))
  obtain ⟨n', hp'⟩ := hp
  exact K o' n' h' ho hp' (hk.out)
end Go.Det
end
/- A made grammar, walked: its tokens, its nonterminals. -/
set_option linter.unusedVariables false
set_option linter.unusedSimpArgs false
noncomputable section
namespace Go.Det
open Go.Proofs

theorem sbin_add {s u : ByteArray} (h : s.size + u.size ≤ 1000000) : sbin .add (.string s) (.string u) = some (.string (s ++ u)) := by
  show guard' (decide (((s.size + u.size : Nat) : Int) ≤ IntKind.i64.max)) _ = _
  rw [decide_eq_true (by show ((s.size + u.size : Nat) : Int) ≤ 9223372036854775807; omega)]; rfl
theorem cvI_w8 {n : Nat} (h : n < 256) : cvI .u8 (.int .i64 (n : Int)) = some (.int .u8 (n : Int)) := by
  show some (Value.int .u8 (IntKind.wrap .u8 (n : Int))) = _
  rw [IntWalk.u8_in _ (by omega)]
theorem cvB_one {h : DH} {b x : Nat} {e : TypeId} {md : Md} (q : Has h b (.cells [.int .u8 (x : Int)] e md)) : cvB h (.slice (some ⟨b, 0, none⟩) 1 1) = some (.string ⟨⟨[UInt8.ofNat x]⟩⟩) := by
  unfold cvB
  simp only [asSl_sl, ob_some]
  show ob (h.row b) _ = _
  rw [q.row]; rfl
def letter (i : Nat) : ByteArray := ⟨⟨[UInt8.ofNat (97 + i)]⟩⟩
def tokAt (i : Nat) : Tk := ⟨⟨#[116]⟩ ++ letter i, letter i, false⟩
def ntName (i : Nat) : ByteArray := ⟨#[110]⟩ ++ letter i
def inhAll : List ByteArray := [⟨#[105]⟩, ⟨#[106]⟩]
def synAll : List ByteArray := [⟨#[115]⟩, ⟨#[117]⟩]
def NtOk (i : Nat) (t : Ntm) : Prop := t.name = ntName i ∧ (∃ k, t.inh = inhAll.take k) ∧ ∃ k, t.syn = synAll.take k
def SyOk (nt nn : Nat) (s : Sy) : Prop := (s.tok = true → s.at_ < nt) ∧ (s.tok = false → s.at_ < nn)
def PdOk (nt nn : Nat) (p : Pd) : Prop := p.left < nn ∧ p.right.length ≤ 3 ∧ ∀ s, s ∈ p.right → SyOk nt nn s
structure Made (g : Gm) : Prop where
  t : ∃ k, 0 < k ∧ k ≤ 3 ∧ g.toks = (List.range k).map tokAt
  n : 0 < g.nts.length ∧ g.nts.length ≤ 4 ∧ ∀ i t, g.nts[i]? = some t → NtOk i t
  p : 0 < g.prods.length ∧ g.prods.length ≤ 7 ∧ ∀ p, p ∈ g.prods → PdOk g.toks.length g.nts.length p

/-- The grammar so far, in the block that is filled. -/
structure GS (n0 : Nat) (h0 h : DH) (pb b2 b3 : Nat) (lv : Value) (l : List Nat) (g : Gm) : Prop where
  pk : ∃ n, PK h pb lv l n
  ge : n0 ≤ b2 ∧ n0 ≤ b3 ∧ b2 ≠ b3 ∧ n0 ≤ h.n
  r : ∃ x y z, Has h b2 (.cells [x, y, z] 28 .exact)
  parts : ∃ tv nv pv, Has h b3 (.cells [tv, nv, pv] 28 .exact) ∧ Grow h tv 99 3 (g.toks.map tokCells) n0 ∧ (∃ nr, Grow h nv 101 3 nr n0 ∧ Rows2 (NtRow h) nr g.nts) ∧ ∃ pr, Grow h pv 37 3 pr n0 ∧ Rows2 (PdRow h) pr g.prods
  ks : KS n0 [97] [28, 99, 101, 37, 90] h0 h
section
variable {n0 : Nat} {h0 : DH} {pb b2 b3 : Nat} {lv : Value} {l : List Nat} {g : Gm} {Z : Value → DH → Prop}
/-- Whatever was made since. -/
theorem GS.step {h h' : DH} {ts : List Nat} (a : GS n0 h0 h pb b2 b3 lv l g) (f : KS h.n [97] ts h h') (hp : ∃ n, PK h' pb lv l n) : GS n0 h0 h' pb b2 b3 lv l g := by
  obtain ⟨h1, h2, ⟨x, y, z, h3⟩, ⟨tv, nv, pv, g1, g2, ⟨nr, g3, g4⟩, pr, g5, g6⟩, h5⟩ := a
  have fo := f.out (n1 := n0)
  exact ⟨hp, ⟨h2.1, h2.2.1, h2.2.2.1, Nat.le_trans h2.2.2.2 f.n⟩, ⟨x, y, z, h3.ks fo (by decide) (by simp)⟩, ⟨tv, nv, pv, g1.ks fo (by decide) (by simp), g2.ks fo (by decide) (by simp), ⟨nr, g3.ks fo (by decide) (by simp), g4.mono fun a b hab => hab.ks fo (by decide) (by simp)⟩, pr, g5.ks fo (by decide) (by simp), g6.mono fun a b hab => hab.ks fo (by decide) (by simp)⟩, h5.trans (fo.mono (by simp) (by simp))⟩
theorem GS.ext {h h' : DH} (a : GS n0 h0 h pb b2 b3 lv l g) (f : Ext h h') : GS n0 h0 h' pb b2 b3 lv l g := by
  obtain ⟨n, hp⟩ := a.pk
  exact a.step (ts := []) (KS.ext f) ⟨n, hp.ext f⟩
theorem GS.num {h : DH} (a : GS n0 h0 h pb b2 b3 lv l g) {m : Nat} (hm : 0 < m) {F : Value → DH → Prop} (K : ∀ (r : Nat) h', r < m → GS n0 h0 h' pb b2 b3 lv l g → KS h.n [97] [] h h' → F (.int .i64 (r : Int)) h') : CP Try.prog 45 [.pointer (some ⟨pb, 0, none⟩), .int .i64 (m : Int)] h F := by
  obtain ⟨n, hp⟩ := a.pk
  exact num_ok hp hm fun r n' h' hr hp' f => K r h' hr (a.step f ⟨n', hp'⟩) f
/-- A store into the block that is filled, and a grown slice of it. -/
theorem GS.r2 {h h' : DH} {sl : Value} {x y z : Value} {e s : Nat} {rows : List (List Value)} (hr : Has h b2 (.cells [x, y, z] 28 .exact)) (ne : b2 ≠ b3) (hg : Grow h sl e s rows n0) (he : e ≠ 28) (f : Kp h h' (fun b => b = b3 ∨ b ∈ blockOf sl)) : Has h' b2 (.cells [x, y, z] 28 .exact) := by
  refine hr.kp f ?_
  rintro (hb | hb)
  · exact ne hb
  · rcases hg with ⟨rfl, _⟩ | ⟨b, md, rfl, _, h2, _⟩
    · simp [blockOf] at hb
    · simp [blockOf] at hb; subst hb
      have := h2.inj hr
      simp only [DBlk.cells.injEq] at this
      exact he this.2.1
theorem GS.kf {h h' : DH} {sl : Value} {c : List Value} {e s : Nat} {md : Md} {rows : List (List Value)} (hb : Has h b3 (.cells c 28 md)) (hn : n0 ≤ b3) (hg : Grow h sl e s rows n0) (f : Kp h h' (fun b => b = b3 ∨ b ∈ blockOf sl)) : KS n0 [] [28, e] h h' := by
  refine Kp.mono f fun b hx => .inr ?_
  rcases hx with rfl | hx
  · exact ⟨hn, .of hb rfl (by simp)⟩
  · refine ⟨(hg.block b hx).1, ?_⟩
    rcases hg with ⟨rfl, _⟩ | ⟨b', md, rfl, _, h2, _⟩
    · simp [blockOf] at hx
    · simp [blockOf] at hx; subst hx; exact .of h2 rfl (by simp)
theorem toks_loop (m : Nat) (next : ∀ h k, GS n0 h0 h pb b2 b3 lv l ⟨(List.range k).map tokAt, [], []⟩ → 0 < k → k ≤ 3 → CP Try.prog 45 [.pointer (some ⟨pb, 0, none⟩), (Value.int .i64 4)] h fun v37_31 h32 => obP (ibin .add v37_31 (Value.int .i64 1)) fun v38_33 => A16_2 (.pointer (some ⟨pb, 0, none⟩)) (.pointer (some ⟨b2, 0, none⟩)) (.pointer (some ⟨b3, 0, none⟩)) v38_33 h32 Z) :
    ∀ (k : Nat) h, m + k ≤ 3 → 0 < m + k → GS n0 h0 h pb b2 b3 lv l ⟨(List.range k).map tokAt, [], []⟩ → A16_1 (.pointer (some ⟨pb, 0, none⟩)) (.pointer (some ⟨b2, 0, none⟩)) (.pointer (some ⟨b3, 0, none⟩)) (.int .i64 (m : Int)) h Z := by
  induction m with
  | zero =>
    intro k h hk h0k a
    apply R16_1
    simp only [ibin_gtr, obP_some, asB_bool, show decide ((0 : Int) < ((0 : Nat) : Int)) = false from rfl, bP_false]
    exact next h k a (by omega) (by omega)
  | succ m ih =>
    intro k h hk h0k a
    apply R16_1
    obtain ⟨h1, h2, ⟨x, y, z, h3⟩, ⟨tv, nv, pv, g1, g2, ⟨nr, g3, g4⟩, pr, g5, g6⟩, h5⟩ := a
    obtain ⟨n, hp⟩ := h1
    have hlen : (((List.range k).map tokAt).map tokCells).length = k := by simp
    simp only [ibin_gtr, obP_some, asB_bool, show decide ((0 : Int) < ((m + 1 : Nat) : Int)) = true from decide_eq_true (by omega), bP_true, fa_ptr, Nat.zero_add, ld1_has g1 (o := 0) (v := tv) rfl, g2.rows.len, hlen]
    rw [show (97 : Int) = ((97 : Nat) : Int) from rfl, ibin_addN (by omega), obP_some, cvI_w8 (by omega), obP_some]
    refine bldSl_ok (cs := [.int .u8 ((97 + k : Nat) : Int)]) rfl (by decide) rfl ?_
    have e1 := Ext.push h (.cells [.int .u8 ((97 + k : Nat) : Int)] 5 .exact)
    have q1 : Has (h.push (.cells [.int .u8 ((97 + k : Nat) : Int)] 5 .exact)) h.n (.cells [.int .u8 ((97 + k : Nat) : Int)] 5 .exact) := Has.push_self _ _
    generalize h.push (.cells [.int .u8 ((97 + k : Nat) : Int)] 5 .exact) = H1 at e1 q1 ⊢
    rw [cvB_one q1, obP_some]
    have g1' := g1.ext e1
    have g2' := g2.ext e1
    refine obP_of (ld1_has g1' (o := 0) rfl) ?_
    rw [sbin_add (by show (1 + 1 : Nat) ≤ 1000000; omega), obP_some]
    refine obP_of (a := .agg ⟨tokCells (tokAt k)⟩) rfl ?_
    refine field_push (k := 0) (cs := tokCells (tokAt k)) g1' rfl rfl g2' (Nat.le_trans h2.2.2.2 e1.n) (by decide) rfl rfl rfl rfl rfl rfl (by decide) (room_ok (by simp; omega) (by simp; omega) (by omega)) fun v' H2 q2 q3 f2 => ?_
    rw [ibin_dec (by omega), obP_some]
    have fk := GS.kf g1' h2.2.1 g2' f2
    refine ih (k + 1) H2 (by omega) (by omega) ⟨⟨n, (hp.ext e1).ks fk (by decide) (by decide) (by decide) (by decide)⟩, ⟨h2.1, h2.2.1, h2.2.2.1, Nat.le_trans h2.2.2.2 (Nat.le_trans e1.n f2.n)⟩, ⟨x, y, z, GS.r2 (h3.ext e1) h2.2.2.1 g2' (by decide) f2⟩, ⟨v', nv, pv, q2, ?_, ⟨nr, (g3.ext e1).ks fk (by decide) (by decide), g4.mono fun a b hab => (hab.ks (n0 := 0) (o := []) (ts := []) (KS.ext e1) (by simp) (by simp)).ks fk (by decide) (by decide)⟩, pr, (g5.ext e1).ks fk (by decide) (by decide), g6.mono fun a b hab => (hab.ks (n0 := 0) (o := []) (ts := []) (KS.ext e1) (by simp) (by simp)).ks fk (by decide) (by decide)⟩, (h5.trans (KS.ext e1)).trans (fk.mono (by simp) (by simp))⟩
    have : ((List.range (k + 1)).map tokAt).map tokCells = ((List.range k).map tokAt).map tokCells ++ [tokCells (tokAt k)] := by rw [List.range_succ]; simp
    show Grow H2 v' 99 3 (((List.range (k + 1)).map tokAt).map tokCells) n0
    rw [this]; exact q3

theorem slS_take {h : DH} {b r len e : Nat} {c : List Value} {md : Md} (q : Has h b (.cells c e md)) (hr : r ≤ len) : slS e 1 h (.slice (some ⟨b, 0, none⟩) len len) none (some (.int .i64 (r : Int))) = some (.slice (some ⟨b, 0, none⟩) r len) := by
  show ob (guard' (sel (Nat.ble 0 r) (Nat.ble r len) false) (some (0, r))) (fun b' : Nat × Nat => slAt h e (some ⟨b, 0, none⟩) (Nat.mul b'.1 1) (Nat.sub b'.2 b'.1) (Nat.sub len b'.1)) = _
  rw [show Nat.ble 0 r = true from Nat.ble_eq_true_of_le (Nat.zero_le _), show Nat.ble r len = true from Nat.ble_eq_true_of_le hr]
  show ob (h.row b) (fun r' => guard' (Nat.beq r'.e e) (some (Value.slice (some ⟨b, 0 + 0 * 1, none⟩) (r - 0) (len - 0)))) = _
  rw [q.row, ob_some]
  show guard' (Nat.beq e e) _ = _
  rw [Nat.beq_refl]; rfl
theorem rows_take {h : DH} {b r : Nat} {l : List ByteArray} (q : Has h b (.cells (l.map Value.string) 9 .exact)) (hr : r ≤ l.length) : RowsAt h (.slice (some ⟨b, 0, none⟩) r l.length) 9 1 (strRows (l.take r)) := by
  have e : (strRows (l.take r)).length = r := by simp [strRows]; omega
  refine .inr ⟨b, 0, l.length, [], (l.drop r).map Value.string, .exact, by rw [e], by rw [e]; exact hr, ?_, rfl, ?_⟩
  · have hf : ∀ m : List ByteArray, (strRows m).flatten = m.map Value.string := by
      intro m; induction m with
      | nil => rfl
      | cons a m ih => show Value.string a :: (strRows m).flatten = _; rw [ih]; rfl
    rw [hf, List.nil_append, ← List.map_append, List.take_append_drop]; exact q
  · intro x hx
    obtain ⟨a, _, rfl⟩ := List.mem_map.1 hx; rfl
theorem nt_tail {T : List Tk} {nts : List Ntm} {H0 : DH} {b7 k : Nat} {m : Nat} {iv : Value} {inh : List ByteArray} (hk : k = nts.length) (hk4 : k < 4) (hok : ∀ i t, nts[i]? = some t → NtOk i t) (hinh : ∃ r, inh = inhAll.take r) (hm : m < 100) (hT : T.length < 100)
    (next : ∀ t h, GS n0 h0 h pb b2 b3 lv l ⟨T, nts ++ [t], []⟩ → (∀ i u, (nts ++ [t])[i]? = some u → NtOk i u) → A16_2 (.pointer (some ⟨pb, 0, none⟩)) (.pointer (some ⟨b2, 0, none⟩)) (.pointer (some ⟨b3, 0, none⟩)) (.int .i64 (m : Int)) h Z)
    {h : DH} (a0 : GS n0 h0 H0 pb b2 b3 lv l ⟨T, nts, []⟩) (f0 : KS H0.n [97] [101] H0 h) (hp : ∃ n, PK h pb lv l n) (q7 : Has h b7 (.cells [.string (ntName k), iv, .slice none 0 0] 101 .exact)) (n7 : H0.n ≤ b7) (hi : RowsAt h iv 9 1 (strRows inh)) :
    A16_3 (.pointer (some ⟨pb, 0, none⟩)) (.pointer (some ⟨b2, 0, none⟩)) (.pointer (some ⟨b3, 0, none⟩)) (.int .i64 ((m + 1 : Nat) : Int)) (.pointer (some ⟨b7, 0, none⟩)) h Z := by
  apply R16_3
  refine bldSl_ok (cs := [.string ⟨#[115]⟩, .string ⟨#[117]⟩]) rfl (by decide) rfl ?_
  have e1 := Ext.push h (.cells [.string ⟨#[115]⟩, .string ⟨#[117]⟩] 9 .exact)
  have q1 : Has (h.push (.cells [.string ⟨#[115]⟩, .string ⟨#[117]⟩] 9 .exact)) h.n (.cells [.string ⟨#[115]⟩, .string ⟨#[117]⟩] 9 .exact) := Has.push_self _ _
  generalize h.push (.cells [.string ⟨#[115]⟩, .string ⟨#[117]⟩] 9 .exact) = h1 at e1 q1 ⊢
  obtain ⟨n, hp⟩ := hp
  refine num_ok (m := 3) (hp.ext e1) (by omega) fun r n' h2 hr hp2 f2 => ?_
  have q12 := q1.ks f2 (by decide) (by simp)
  rw [slS_take q12 (by omega), obP_some, fa_ptr, obP_some]
  have q72 := (q7.ext e1).ks f2 (by decide) (by simp)
  have f02 : KS H0.n [97] [101] H0 h2 := (f0.trans (KS.ext e1)).trans ((f2.from (Nat.le_trans f0.n e1.n)).mono (by simp) (by simp))
  have hi2 := (hi.ext e1).ks f2 (by decide) (by simp)
  refine st_ok (c' := [.string (ntName k), iv, .slice (some ⟨h.n, 0, none⟩) r 2]) q72 rfl rfl rfl rfl (by simp) rfl rfl ?_
  have f3 : KS H0.n [] [101] h2 (h2.upd b7 (.cells [.string (ntName k), iv, .slice (some ⟨h.n, 0, none⟩) r 2] 101 .exact)) := KS.upd _ q72 n7 (by simp)
  have q73 : Has (h2.upd b7 (.cells [.string (ntName k), iv, .slice (some ⟨h.n, 0, none⟩) r 2] 101 .exact)) b7 (.cells [.string (ntName k), iv, .slice (some ⟨h.n, 0, none⟩) r 2] 101 .exact) := q72.upd_self _
  generalize h2.upd b7 (.cells [.string (ntName k), iv, .slice (some ⟨h.n, 0, none⟩) r 2] 101 .exact) = h3 at f3 q73 ⊢
  have f03 := f02.trans (f3.mono (by simp) (by simp))
  have hs3 : RowsAt h3 (.slice (some ⟨h.n, 0, none⟩) r 2) 9 1 (strRows (synAll.take r)) := rows_take (l := synAll) (q12.ks f3 (by decide) (by decide)) (by show r ≤ 2; omega)
  have hi3 := hi2.ks f3 (by decide) (by decide)
  have hp3 := hp2.ks f3 (by decide) (by decide) (by decide) (by decide)
  have a3 := a0.step f03 ⟨n', hp3⟩
  obtain ⟨_, g0, ⟨x, y, z, gr⟩, ⟨tv, nv, pv, g1, g2, ⟨nr, g3, g4⟩, pr, g5, g6⟩, gk⟩ := a3
  rw [fa_ptr, obP_some]
  refine obP_of (ld1_has g1 (o := 0 + 1) rfl) ?_
  refine obP_of (ldN_has (l := [.string (ntName k), iv, .slice (some ⟨h.n, 0, none⟩) r 2]) q73 rfl) ?_
  have hnl : nr.length = k := g4.len.trans hk.symm
  have si := isSl_facts hi3.isSl
  refine field_push (k := 1) (cs := [.string (ntName k), iv, .slice (some ⟨h.n, 0, none⟩) r 2]) g1 rfl rfl g3 g0.2.2.2 (by decide) rfl rfl rfl rfl rfl (by show sel true (sel (okCell iv) true false) false = true; rw [si.1]; rfl) (by decide) (room_ok (by omega) (by omega) (by omega)) fun v' h4 q4 q5 f4 => ?_
  have fk := GS.kf g1 g0.2.1 g3 f4
  rw [ibin_dec (by omega), obP_some]
  refine next ⟨ntName k, inh, synAll.take r⟩ h4 ⟨⟨n', hp3.ks fk (by decide) (by decide) (by decide) (by decide)⟩, ⟨g0.1, g0.2.1, g0.2.2.1, Nat.le_trans g0.2.2.2 f4.n⟩, ⟨x, y, z, GS.r2 gr g0.2.2.1 g3 (by decide) f4⟩, ⟨tv, v', pv, q4, g2.ks fk (by decide) (by decide), ⟨_, q5, ?_⟩, pr, g5.ks fk (by decide) (by decide), g6.mono fun a b hab => hab.ks fk (by decide) (by decide)⟩, gk.trans (fk.mono (by simp) (by simp))⟩ ?_
  · exact (g4.mono fun a b hab => hab.ks fk (by decide) (by decide)).snoc ⟨iv, _, rfl, hi3.ks fk (by decide) (by decide), hs3.ks fk (by decide) (by decide)⟩
  · intro i u hu
    rcases Nat.lt_or_ge i nts.length with hlt | hge
    · rw [List.getElem?_append_left hlt] at hu; exact hok i u hu
    · rw [List.getElem?_append_right hge] at hu
      have hi0 : i - nts.length = 0 := by
        have := (List.getElem?_eq_some_iff.1 hu).1
        simp at this; omega
      rw [hi0] at hu
      simp at hu
      subst hu
      have : i = k := by omega
      subst this
      exact ⟨rfl, hinh, r, rfl⟩
theorem nts_loop {T : List Tk} (hT : T.length < 100) (m : Nat)
    (next : ∀ h nts, GS n0 h0 h pb b2 b3 lv l ⟨T, nts, []⟩ → 0 < nts.length → nts.length ≤ 4 → (∀ i t, nts[i]? = some t → NtOk i t) → CP Try.prog 45 [.pointer (some ⟨pb, 0, none⟩), (Value.int .i64 7)] h fun v73_61 h62 => obP (ibin .add v73_61 (Value.int .i64 1)) fun v74_63 => A16_4 (.pointer (some ⟨pb, 0, none⟩)) (.pointer (some ⟨b2, 0, none⟩)) (.pointer (some ⟨b3, 0, none⟩)) v74_63 h62 Z) :
    ∀ nts h, m + nts.length ≤ 4 → 0 < m + nts.length → (∀ i t, nts[i]? = some t → NtOk i t) → GS n0 h0 h pb b2 b3 lv l ⟨T, nts, []⟩ → A16_2 (.pointer (some ⟨pb, 0, none⟩)) (.pointer (some ⟨b2, 0, none⟩)) (.pointer (some ⟨b3, 0, none⟩)) (.int .i64 (m : Int)) h Z := by
  induction m with
  | zero =>
    intro nts h hk h0k hok a
    apply R16_2
    simp only [ibin_gtr, obP_some, asB_bool, show decide ((0 : Int) < ((0 : Nat) : Int)) = false from rfl, bP_false]
    exact next h nts a (by omega) (by omega) hok
  | succ m ih =>
    intro nts h hk h0k hok a
    apply R16_2
    have a' := a
    obtain ⟨⟨n, hp⟩, h2, ⟨x, y, z, h3⟩, ⟨tv, nv, pv, g1, g2, ⟨nr, g3, g4⟩, pr, g5, g6⟩, h5⟩ := a'
    have hnl : nr.length = nts.length := g4.len
    simp only [ibin_gtr, obP_some, asB_bool, show decide ((0 : Int) < ((m + 1 : Nat) : Int)) = true from decide_eq_true (by omega), bP_true, fa_ptr, Nat.zero_add, ld1_has g1 (o := 1) (v := nv) rfl, g3.rows.len, hnl]
    rw [show (97 : Int) = ((97 : Nat) : Int) from rfl, ibin_addN (by omega), obP_some, cvI_w8 (by omega), obP_some]
    refine bldSl_ok (cs := [.int .u8 ((97 + nts.length : Nat) : Int)]) rfl (by decide) rfl ?_
    have e1 := Ext.push h (.cells [.int .u8 ((97 + nts.length : Nat) : Int)] 5 .exact)
    have q1 : Has (h.push (.cells [.int .u8 ((97 + nts.length : Nat) : Int)] 5 .exact)) h.n (.cells [.int .u8 ((97 + nts.length : Nat) : Int)] 5 .exact) := Has.push_self _ _
    generalize h.push (.cells [.int .u8 ((97 + nts.length : Nat) : Int)] 5 .exact) = H1 at e1 q1 ⊢
    rw [cvB_one q1, obP_some, sbin_add (by show (1 + 1 : Nat) ≤ 1000000; omega), obP_some]
    refine obP_of (a := .agg ⟨[.string (ntName nts.length), .slice none 0 0, .slice none 0 0]⟩) rfl ?_
    rw [al_ok, oh_some]
    have e2 := Ext.push H1 (.cells [(Value.string ⟨#[]⟩), (Value.slice none 0 0), (Value.slice none 0 0)] 101 .exact)
    have q2 : Has (H1.push (.cells [(Value.string ⟨#[]⟩), (Value.slice none 0 0), (Value.slice none 0 0)] 101 .exact)) H1.n (.cells [(Value.string ⟨#[]⟩), (Value.slice none 0 0), (Value.slice none 0 0)] 101 .exact) := Has.push_self _ _
    generalize H1.push (.cells [(Value.string ⟨#[]⟩), (Value.slice none 0 0), (Value.slice none 0 0)] 101 .exact) = H2 at e2 q2 ⊢
    have n7 : h.n ≤ H1.n := e1.n
    refine st_ok (c' := [.string (ntName nts.length), .slice none 0 0, .slice none 0 0]) q2 rfl rfl rfl rfl (by simp) rfl rfl ?_
    have f3 : KS h.n [] [101] H2 (H2.upd H1.n (.cells [.string (ntName nts.length), .slice none 0 0, .slice none 0 0] 101 .exact)) := KS.upd _ q2 n7 (by simp)
    have q3 : Has (H2.upd H1.n (.cells [.string (ntName nts.length), .slice none 0 0, .slice none 0 0] 101 .exact)) H1.n (.cells [.string (ntName nts.length), .slice none 0 0, .slice none 0 0] 101 .exact) := q2.upd_self _
    generalize H2.upd H1.n (.cells [.string (ntName nts.length), .slice none 0 0, .slice none 0 0] 101 .exact) = H3 at f3 q3 ⊢
    have f03 : KS h.n [] [101] h H3 := (KS.ext (e1.trans e2)).trans f3
    have hp3 := hp.ks f03 (by decide) (by decide) (by decide) (by decide)
    have a3 := a.step (f03.mono (o' := [97]) (by simp) (fun _ h => h)) ⟨n, hp3⟩
    obtain ⟨_, g0, _, ⟨tv3, nv3, pv3, y1, y2, ⟨nr3, y3, y4⟩, pr3, y5, y6⟩, gk⟩ := a3
    refine obP_of (ld1_has y1 (o := 1) rfl) ?_
    have hnl3 : nr3.length = nts.length := y4.len
    rw [y3.rows.len, obP_some, hnl3, ibin_gtr, obP_some, asB_bool, obP_some]
    have tail : ∀ {iv : Value} {inh : List ByteArray} {h'}, (∃ r, inh = inhAll.take r) → KS h.n [97] [101] h h' → (∃ n, PK h' pb lv l n) → Has h' H1.n (.cells [.string (ntName nts.length), iv, .slice none 0 0] 101 .exact) → RowsAt h' iv 9 1 (strRows inh) →
        A16_3 (.pointer (some ⟨pb, 0, none⟩)) (.pointer (some ⟨b2, 0, none⟩)) (.pointer (some ⟨b3, 0, none⟩)) (.int .i64 ((m + 1 : Nat) : Int)) (.pointer (some ⟨H1.n, 0, none⟩)) h' Z := fun hinh f hp q hi =>
      nt_tail rfl (by omega) hok hinh (by omega) hT (fun t h' a' ok' => ih (nts ++ [t]) h' (by simp; omega) (by simp; omega) ok' a') a f hp q n7 hi
    cases decide ((0 : Int) < (nts.length : Int)) with
    | false =>
      rw [bP_false]
      exact tail ⟨0, rfl⟩ (f03.mono (by simp) (fun _ h => h)) ⟨n, hp3⟩ q3 (RowsAt.nil _ _ _)
    | true =>
      rw [bP_true]
      refine bldSl_ok (cs := [.string ⟨#[105]⟩, .string ⟨#[106]⟩]) rfl (by decide) rfl ?_
      have e4 := Ext.push H3 (.cells [.string ⟨#[105]⟩, .string ⟨#[106]⟩] 9 .exact)
      have q4 : Has (H3.push (.cells [.string ⟨#[105]⟩, .string ⟨#[106]⟩] 9 .exact)) H3.n (.cells [.string ⟨#[105]⟩, .string ⟨#[106]⟩] 9 .exact) := Has.push_self _ _
      generalize H3.push (.cells [.string ⟨#[105]⟩, .string ⟨#[106]⟩] 9 .exact) = H4 at e4 q4 ⊢
      refine num_ok (m := 3) (hp3.ext e4) (by omega) fun r n' H5 hr hp5 f5 => ?_
      have q45 := q4.ks f5 (by decide) (by simp)
      rw [slS_take q45 (by omega), obP_some, fa_ptr, obP_some]
      have q5 := (q3.ext e4).ks f5 (by decide) (by simp)
      refine st_ok (c' := [.string (ntName nts.length), .slice (some ⟨H3.n, 0, none⟩) r 2, .slice none 0 0]) q5 rfl rfl rfl rfl (by simp) rfl rfl ?_
      have f6 : KS h.n [] [101] H5 (H5.upd H1.n (.cells [.string (ntName nts.length), .slice (some ⟨H3.n, 0, none⟩) r 2, .slice none 0 0] 101 .exact)) := KS.upd _ q5 n7 (by simp)
      have q6 : Has (H5.upd H1.n (.cells [.string (ntName nts.length), .slice (some ⟨H3.n, 0, none⟩) r 2, .slice none 0 0] 101 .exact)) H1.n (.cells [.string (ntName nts.length), .slice (some ⟨H3.n, 0, none⟩) r 2, .slice none 0 0] 101 .exact) := q5.upd_self _
      generalize H5.upd H1.n (.cells [.string (ntName nts.length), .slice (some ⟨H3.n, 0, none⟩) r 2, .slice none 0 0] 101 .exact) = H6 at f6 q6 ⊢
      exact tail ⟨r, rfl⟩ ((((f03.mono (by simp) (fun _ h => h)).trans (KS.ext e4)).trans ((f5.from (Nat.le_trans f03.n e4.n)).mono (by simp) (by simp))).trans (f6.mono (by simp) (by simp))) ⟨n', hp5.ks f6 (by decide) (by decide) (by decide) (by decide)⟩ q6 (rows_take (l := inhAll) (q45.ks f6 (by decide) (by decide)) (by show r ≤ 2; omega))
end
end Go.Det
end
/- A made grammar, walked: its productions; the whole. -/
set_option linter.unusedVariables false
set_option linter.unusedSimpArgs false
noncomputable section
namespace Go.Det
open Go.Proofs

theorem Kp.ksAt {n0 : Nat} {h h' : DH} {b e s et : Nat} {md : Md} {sl : Value} {c : List Value} {rows : List (List Value)} (hb : Has h b (.cells c et md)) (hn : n0 ≤ b) (hg : Grow h sl e s rows n0) (f : Kp h h' (fun x => x = b ∨ x ∈ blockOf sl)) : KS n0 [] [et, e] h h' := by
  refine Kp.mono f fun x hx => .inr ?_
  rcases hx with rfl | hx
  · exact ⟨hn, .of hb rfl (by simp)⟩
  · refine ⟨(hg.block x hx).1, ?_⟩
    rcases hg with ⟨rfl, _⟩ | ⟨b', md, rfl, _, h2, _⟩
    · simp [blockOf] at hx
    · simp [blockOf] at hx; subst hx; exact .of h2 rfl (by simp)
section
variable {n0 : Nat} {h0 : DH} {pb b2 b3 : Nat} {lv : Value} {l : List Nat} {T : List Tk} {N : List Ntm} {Z : Value → DH → Prop}
/-- A production in the making. -/
structure DS (H0 h : DH) (pb b9 : Nat) (lv : Value) (l : List Nat) (left nt nn : Nat) (right : List Sy) : Prop where
  pk : ∃ n, PK h pb lv l n
  f : KS H0.n [97] [37, 90] H0 h
  ge : H0.n ≤ b9
  d : ∃ rv, Has h b9 (.cells [.int .i64 (left : Int), rv, .slice none 0 0] 37 .exact) ∧ Grow h rv 90 2 (right.map symCells) H0.n
  ok : ∀ s, s ∈ right → SyOk nt nn s
  left : left < nn
theorem prods6 {H0 : DH} {b9 b11 left nt nn : Nat} {right : List Sy} {s : Sy} {m k : Nat} (hs : SyOk nt nn s) (hr : right.length < 100) (hk : k < 100)
    (next : ∀ h, DS H0 h pb b9 lv l left nt nn (right ++ [s]) → A16_5 (.pointer (some ⟨pb, 0, none⟩)) (.pointer (some ⟨b2, 0, none⟩)) (.pointer (some ⟨b3, 0, none⟩)) (.int .i64 (m : Int)) (.pointer (some ⟨b9, 0, none⟩)) (.int .i64 (k : Int)) h Z)
    {h : DH} (a : DS H0 h pb b9 lv l left nt nn right) (q : Has h b11 (.cells (symCells s) 90 .exact)) :
    A16_6 (.pointer (some ⟨pb, 0, none⟩)) (.pointer (some ⟨b2, 0, none⟩)) (.pointer (some ⟨b3, 0, none⟩)) (.int .i64 (m : Int)) (.pointer (some ⟨b9, 0, none⟩)) (.int .i64 ((k + 1 : Nat) : Int)) (.pointer (some ⟨b11, 0, none⟩)) h Z := by
  apply R16_6
  obtain ⟨⟨n, hp⟩, f, ge, ⟨rv, d1, d2⟩, ok, hl⟩ := a
  rw [fa_ptr, obP_some]
  refine obP_of (ld1_has d1 (o := 0 + 1) rfl) ?_
  refine obP_of (ldN_has (l := symCells s) q rfl) ?_
  refine field_push (k := 1) (cs := symCells s) d1 rfl rfl d2 f.n (by decide) rfl rfl rfl rfl rfl rfl (by decide) (room_ok (by simp; omega) (by simp; omega) (by omega)) fun v' h4 q4 q5 f4 => ?_
  have fk := Kp.ksAt d1 ge d2 f4
  rw [ibin_dec (by omega), obP_some]
  refine next h4 ⟨⟨n, hp.ks fk (by decide) (by decide) (by decide) (by decide)⟩, f.trans (fk.mono (by simp) (by simp)), ge, ⟨v', q4, ?_⟩, ?_, hl⟩
  · rw [List.map_append]; exact q5
  · intro x hx
    rcases List.mem_append.1 hx with h | h
    · exact ok x h
    · simp at h; subst h; exact hs
theorem DS.num {H0 : DH} {b9 left nt nn : Nat} {right : List Sy} {h : DH} (a : DS H0 h pb b9 lv l left nt nn right) {m : Nat} (hm : 0 < m) {F : Value → DH → Prop} (K : ∀ (r : Nat) h', r < m → DS H0 h' pb b9 lv l left nt nn right → KS h.n [97] [] h h' → F (.int .i64 (r : Int)) h') : CP Try.prog 45 [.pointer (some ⟨pb, 0, none⟩), .int .i64 (m : Int)] h F := by
  obtain ⟨⟨n, hp⟩, f, ge, ⟨rv, d1, d2⟩, ok, hl⟩ := a
  refine num_ok hp hm fun r n' h' hr hp' f' => K r h' hr ⟨⟨n', hp'⟩, f.trans ((f'.from f.n).mono (by simp) (by simp)), ge, ⟨rv, d1.ks f' (by decide) (by simp), d2.ks f' (by decide) (by simp)⟩, ok, hl⟩ f'
theorem DS.ext {H0 : DH} {b9 left nt nn : Nat} {right : List Sy} {h h' : DH} (a : DS H0 h pb b9 lv l left nt nn right) (e : Ext h h') : DS H0 h' pb b9 lv l left nt nn right := by
  obtain ⟨⟨n, hp⟩, f, ge, ⟨rv, d1, d2⟩, ok, hl⟩ := a
  exact ⟨⟨n, hp.ext e⟩, f.trans (KS.ext e), ge, ⟨rv, d1.ext e, d2.ext e⟩, ok, hl⟩
theorem DS.gs {H0 : DH} {b9 left nt nn : Nat} {right : List Sy} {h : DH} {g : Gm} (a : DS H0 h pb b9 lv l left nt nn right) (a0 : GS n0 h0 H0 pb b2 b3 lv l g) : GS n0 h0 h pb b2 b3 lv l g := a0.step a.f a.pk
theorem prods5 {H0 : DH} {b9 left : Nat} {prods : List Pd} {m : Nat} (hT : 0 < T.length ∧ T.length < 100) (hN : 0 < N.length ∧ N.length < 100) (hok : ∀ i t, N[i]? = some t → NtOk i t) (hm : m < 100) (hpl : prods.length < 100)
    (a0 : GS n0 h0 H0 pb b2 b3 lv l ⟨T, N, prods⟩)
    (next : ∀ p h, GS n0 h0 h pb b2 b3 lv l ⟨T, N, prods ++ [p]⟩ → PdOk T.length N.length p → A16_4 (.pointer (some ⟨pb, 0, none⟩)) (.pointer (some ⟨b2, 0, none⟩)) (.pointer (some ⟨b3, 0, none⟩)) (.int .i64 (m : Int)) h Z) (k : Nat) :
    ∀ right h, k + right.length ≤ 3 → DS H0 h pb b9 lv l left T.length N.length right → A16_5 (.pointer (some ⟨pb, 0, none⟩)) (.pointer (some ⟨b2, 0, none⟩)) (.pointer (some ⟨b3, 0, none⟩)) (.int .i64 ((m + 1 : Nat) : Int)) (.pointer (some ⟨b9, 0, none⟩)) (.int .i64 (k : Int)) h Z := by
  induction k with
  | zero =>
    intro right h hr a
    apply R16_5
    simp only [ibin_gtr, obP_some, asB_bool, show decide ((0 : Int) < ((0 : Nat) : Int)) = false from rfl, bP_false]
    have ag := a.gs a0
    have ag' := ag
    have aa := a
    obtain ⟨⟨n, hp⟩, f, ge, ⟨rv, d1, d2⟩, ok, hl⟩ := aa
    obtain ⟨_, _, _, ⟨tv, nv, pv, g1, g2, ⟨nr, g3, g4⟩, pr, g5, g6⟩, _⟩ := ag'
    refine obP_of (ldN_has (l := [tv, nv, pv]) g1 rfl) ?_
    refine obP_of (ldN_has (l := [.int .i64 (left : Int), rv, .slice none 0 0]) d1 rfl) ?_
    have hnts : ∀ t, t ∈ N → t.inh.length + t.syn.length ≤ 100 := by
      intro t ht
      obtain ⟨i, hi⟩ := List.getElem?_of_mem ht
      obtain ⟨_, ⟨k1, e1⟩, k2, e2⟩ := hok i t hi
      rw [e1, e2]
      simp only [List.length_take]
      have : inhAll.length = 2 := rfl
      have : synAll.length = 2 := rfl
      omega
    refine rules_ok hp ⟨tv, nv, pv, rfl, g2.rows.isSl, g5.rows.isSl, nr, g3.rows, g4⟩ d2.rows rfl hl (fun s hs => (ok s hs).2) hnts (by omega) fun uv n' h1 hu hp1 f1 => ?_
    have d11 := d1.ks f1 (by decide) (by simp)
    have d21 := d2.ks f1 (by decide) (by simp)
    have su := isSl_facts hu
    rw [fa_ptr, obP_some]
    refine st_ok (c' := [.int .i64 (left : Int), rv, uv]) d11 rfl su.2.1 su.2.2.1 (by rw [su.2.2.2]; rfl) (by simp) (by rw [su.2.2.2]; show sel (okCell uv) true false = true; rw [su.1]; rfl) (by rw [su.2.2.2]; rfl) ?_
    have f2 : KS H0.n [] [37] h1 (h1.upd b9 (.cells [.int .i64 (left : Int), rv, uv] 37 .exact)) := KS.upd _ d11 ge (by simp)
    have d12 : Has (h1.upd b9 (.cells [.int .i64 (left : Int), rv, uv] 37 .exact)) b9 (.cells [.int .i64 (left : Int), rv, uv] 37 .exact) := d11.upd_self _
    generalize h1.upd b9 (.cells [.int .i64 (left : Int), rv, uv] 37 .exact) = h2 at f2 d12 ⊢
    have hp2 := hp1.ks f2 (by decide) (by decide) (by decide) (by decide)
    have fH : KS H0.n [97] [37, 90] H0 h2 := (f.trans ((f1.from f.n).mono (by simp) (by simp))).trans (f2.mono (by simp) (by simp))
    have d22 := d21.ks f2 (by decide) (by decide)
    obtain ⟨_, y0, ⟨x, y, z, yr⟩, ⟨tv2, nv2, pv2, y1, y2, ⟨nr2, y3, y4⟩, pr2, y5, y6⟩, yk⟩ := a0.step fH ⟨n', hp2⟩
    rw [fa_ptr, obP_some]
    refine obP_of (ld1_has y1 (o := 0 + 2) rfl) ?_
    refine obP_of (ldN_has (l := [.int .i64 (left : Int), rv, uv]) d12 rfl) ?_
    have hpr : pr2.length = prods.length := y6.len
    have sr := isSl_facts d22.rows.isSl
    refine field_push (k := 2) (cs := [.int .i64 (left : Int), rv, uv]) y1 rfl rfl y5 y0.2.2.2 (by decide) rfl rfl rfl rfl rfl (by show sel true (sel (okCell rv) (sel (okCell uv) true false) false) false = true; rw [sr.1, su.1]; rfl) (by decide) (room_ok (by omega) (by omega) (by omega)) fun v' h4 q4 q5 f4 => ?_
    have fk := GS.kf y1 y0.2.1 y5 f4
    rw [ibin_dec (by omega), obP_some]
    refine next ⟨left, right⟩ h4 ⟨⟨n', hp2.ks fk (by decide) (by decide) (by decide) (by decide)⟩, ⟨y0.1, y0.2.1, y0.2.2.1, Nat.le_trans y0.2.2.2 f4.n⟩, ⟨x, y, z, GS.r2 yr y0.2.2.1 y5 (by decide) f4⟩, ⟨tv2, nv2, v', q4, y2.ks fk (by decide) (by decide), ⟨nr2, y3.ks fk (by decide) (by decide), y4.mono fun a b hab => hab.ks fk (by decide) (by decide)⟩, _, q5, ?_⟩, yk.trans (fk.mono (by simp) (by simp))⟩ ⟨hl, by simpa using hr, ok⟩
    exact (y6.mono fun a b hab => hab.ks fk (by decide) (by decide)).snoc ⟨rv, uv, rfl, d22.rows.ks fk (by decide) (by decide), hu⟩
  | succ k ih =>
    intro right h hr a
    apply R16_5
    simp only [ibin_gtr, obP_some, asB_bool, show decide ((0 : Int) < ((k + 1 : Nat) : Int)) = true from decide_eq_true (by omega), bP_true]
    refine a.num (m := 5) (by omega) fun r h1 hr1 a1 _ => ?_
    rw [ibin_lss, obP_some]
    refine obP_of (a := .agg ⟨[.bool (decide ((r : Int) < 3)), .int .i64 0]⟩) rfl ?_
    rw [al_ok, oh_some]
    have e2 := Ext.push h1 (.cells [(Value.bool false), (Value.int .i64 0)] 90 .exact)
    have q2 : Has (h1.push (.cells [(Value.bool false), (Value.int .i64 0)] 90 .exact)) h1.n (.cells [(Value.bool false), (Value.int .i64 0)] 90 .exact) := Has.push_self _ _
    have a2 := a1.ext e2
    have n11 : H0.n ≤ h1.n := a1.f.n
    -- what is stored into the symbol leaves the production alone
    have keep : ∀ {h h' : DH} {rt : List Sy}, DS H0 h pb b9 lv l left T.length N.length rt → (∀ rv, Grow h rv 90 2 (rt.map symCells) H0.n → h1.n ∉ blockOf rv ∨ True) → Kp h h' (· = h1.n) → KS H0.n [] [90] h h' → (∃ rv, Has h b9 (.cells [.int .i64 (left : Int), rv, .slice none 0 0] 37 .exact) ∧ Grow h rv 90 2 (rt.map symCells) H0.n ∧ h1.n ∉ blockOf rv) → DS H0 h' pb b9 lv l left T.length N.length rt := by
      intro h h' rt a _ f fk ⟨rv, d1, d2, d3⟩
      obtain ⟨⟨n, hp⟩, f0, ge, _, ok, hl⟩ := a
      exact ⟨⟨n, hp.ks fk (by decide) (by decide) (by decide) (by decide)⟩, f0.trans (fk.mono (by simp) (by simp)), ge, ⟨rv, d1.ks fk (by decide) (by decide), d2.kp f fun b hb hx => d3 (hx ▸ hb)⟩, ok, hl⟩
    have hd1 : ∃ rv, Has h1 b9 (.cells [.int .i64 (left : Int), rv, .slice none 0 0] 37 .exact) ∧ Grow h1 rv 90 2 (right.map symCells) H0.n ∧ h1.n ∉ blockOf rv := by
      obtain ⟨rv, d1, d2⟩ := a1.d
      exact ⟨rv, d1, d2, fun hb => by have := (d2.block _ hb).2; omega⟩
    have hd2 : ∃ rv, Has (h1.push (.cells [(Value.bool false), (Value.int .i64 0)] 90 .exact)) b9 (.cells [.int .i64 (left : Int), rv, .slice none 0 0] 37 .exact) ∧ Grow (h1.push (.cells [(Value.bool false), (Value.int .i64 0)] 90 .exact)) rv 90 2 (right.map symCells) H0.n ∧ h1.n ∉ blockOf rv := by
      obtain ⟨rv, d1, d2, d3⟩ := hd1
      exact ⟨rv, d1.ext e2, d2.ext e2, d3⟩
    generalize h1.push (.cells [(Value.bool false), (Value.int .i64 0)] 90 .exact) = h2 at e2 q2 a2 hd2 ⊢
    refine st_ok (c' := [.bool (decide ((r : Int) < 3)), .int .i64 0]) q2 rfl rfl rfl rfl (by simp) rfl rfl ?_
    -- one store more into the symbol
    have stor : ∀ {h : DH} (c0 c1 : List Value), DS H0 h pb b9 lv l left T.length N.length right → Has h h1.n (.cells c0 90 .exact) → (∃ rv, Has h b9 (.cells [.int .i64 (left : Int), rv, .slice none 0 0] 37 .exact) ∧ Grow h rv 90 2 (right.map symCells) H0.n ∧ h1.n ∉ blockOf rv) →
        DS H0 (h.upd h1.n (.cells c1 90 .exact)) pb b9 lv l left T.length N.length right ∧ Has (h.upd h1.n (.cells c1 90 .exact)) h1.n (.cells c1 90 .exact) ∧ (∃ rv, Has (h.upd h1.n (.cells c1 90 .exact)) b9 (.cells [.int .i64 (left : Int), rv, .slice none 0 0] 37 .exact) ∧ Grow (h.upd h1.n (.cells c1 90 .exact)) rv 90 2 (right.map symCells) H0.n ∧ h1.n ∉ blockOf rv) := by
      intro h c0 c1 a q hd
      have f : Kp h (h.upd h1.n (.cells c1 90 .exact)) (· = h1.n) := Kp.upd _ (.inl rfl)
      have fk : KS H0.n [] [90] h (h.upd h1.n (.cells c1 90 .exact)) := KS.upd _ q n11 (by simp)
      refine ⟨keep a (fun _ _ => .inr trivial) f fk hd, q.upd_self _, ?_⟩
      obtain ⟨rv, d1, d2, d3⟩ := hd
      exact ⟨rv, d1.ks fk (by decide) (by decide), d2.kp f fun b hb hx => d3 (hx ▸ hb), d3⟩
    obtain ⟨a3, q3, hd3⟩ := stor [.bool false, .int .i64 0] [.bool (decide ((r : Int) < 3)), .int .i64 0] a2 q2 hd2
    generalize h2.upd h1.n (.cells [.bool (decide ((r : Int) < 3)), .int .i64 0] 90 .exact) = h3 at a3 q3 hd3 ⊢
    obtain ⟨_, _, _, ⟨tv, nv, pv, g1, g2, ⟨nr, g3, g4⟩, pr, g5, g6⟩, _⟩ := a3.gs a0
    rw [fa_ptr, obP_some]
    refine obP_of (ld1_has g1 (o := 0 + 1) rfl) ?_
    have hnr : nr.length = N.length := g4.len
    rw [g3.rows.len, obP_some, hnr]
    refine a3.num hN.1 fun x h4 hx a4 f4 => ?_
    have q4 := q3.ks f4 (by decide) (by simp)
    have hd4 : ∃ rv, Has h4 b9 (.cells [.int .i64 (left : Int), rv, .slice none 0 0] 37 .exact) ∧ Grow h4 rv 90 2 (right.map symCells) H0.n ∧ h1.n ∉ blockOf rv := by
      obtain ⟨rv, d1, d2, d3⟩ := hd3
      exact ⟨rv, d1.ks f4 (by decide) (by simp), d2.ks f4 (by decide) (by simp), d3⟩
    rw [fa_ptr, obP_some]
    refine st_ok (c' := [.bool (decide ((r : Int) < 3)), .int .i64 (x : Int)]) q4 rfl rfl rfl rfl (by simp) rfl rfl ?_
    obtain ⟨a5, q5, hd5⟩ := stor _ [.bool (decide ((r : Int) < 3)), .int .i64 (x : Int)] a4 q4 hd4
    generalize h4.upd h1.n (.cells [.bool (decide ((r : Int) < 3)), .int .i64 (x : Int)] 90 .exact) = h5 at a5 q5 hd5 ⊢
    rw [fa_ptr, obP_some]
    refine obP_of (ld1_has q5 (o := 0 + 0) rfl) ?_
    rw [asB_bool, obP_some]
    cases htok : decide ((r : Int) < 3) with
    | false =>
      rw [bP_false]
      rw [htok] at q5
      refine prods6 (s := ⟨false, x⟩) ⟨(fun h => by cases h), fun _ => hx⟩ (by omega) (by omega) (fun h' a' => ih _ h' (by simp; omega) a') a5 q5
    | true =>
      rw [bP_true]
      obtain ⟨_, _, _, ⟨tv5, nv5, pv5, y1, y2, ⟨nr5, y3, y4⟩, pr5, y5, y6⟩, _⟩ := a5.gs a0
      rw [fa_ptr, obP_some]
      refine obP_of (ld1_has y1 (o := 0 + 0) rfl) ?_
      rw [y2.rows.len, obP_some, List.length_map]
      refine a5.num hT.1 fun x2 h6 hx2 a6 f6 => ?_
      have q6 := q5.ks f6 (by decide) (by simp)
      have hd6 : ∃ rv, Has h6 b9 (.cells [.int .i64 (left : Int), rv, .slice none 0 0] 37 .exact) ∧ Grow h6 rv 90 2 (right.map symCells) H0.n ∧ h1.n ∉ blockOf rv := by
        obtain ⟨rv, d1, d2, d3⟩ := hd5
        exact ⟨rv, d1.ks f6 (by decide) (by simp), d2.ks f6 (by decide) (by simp), d3⟩
      rw [obP_some]
      refine st_ok (c' := [.bool (decide ((r : Int) < 3)), .int .i64 (x2 : Int)]) q6 rfl rfl rfl rfl (by simp) rfl rfl ?_
      obtain ⟨a7, q7, hd7⟩ := stor _ [.bool (decide ((r : Int) < 3)), .int .i64 (x2 : Int)] a6 q6 hd6
      generalize h6.upd h1.n (.cells [.bool (decide ((r : Int) < 3)), .int .i64 (x2 : Int)] 90 .exact) = h7 at a7 q7 hd7 ⊢
      rw [htok] at q7
      refine prods6 (s := ⟨true, x2⟩) ⟨fun _ => hx2, (fun h => by cases h)⟩ (by omega) (by omega) (fun h' a' => ih _ h' (by simp; omega) a') a7 q7

theorem prods_loop (hT : 0 < T.length ∧ T.length < 100) (hN : 0 < N.length ∧ N.length < 100) (hok : ∀ i t, N[i]? = some t → NtOk i t) (m : Nat)
    (fin : ∀ v h prods, GmAt h v ⟨T, N, prods⟩ → 0 < prods.length → prods.length ≤ 7 → (∀ p, p ∈ prods → PdOk T.length N.length p) → (∃ n, PK h pb lv l n) → KS n0 [97] [28, 99, 101, 37, 90] h0 h → Z v h) :
    ∀ prods h, m + prods.length ≤ 7 → 0 < m + prods.length → (∀ p, p ∈ prods → PdOk T.length N.length p) → GS n0 h0 h pb b2 b3 lv l ⟨T, N, prods⟩ → A16_4 (.pointer (some ⟨pb, 0, none⟩)) (.pointer (some ⟨b2, 0, none⟩)) (.pointer (some ⟨b3, 0, none⟩)) (.int .i64 (m : Int)) h Z := by
  induction m with
  | zero =>
    intro prods h hk h0k hp a
    apply R16_4
    simp only [ibin_gtr, obP_some, asB_bool, show decide ((0 : Int) < ((0 : Nat) : Int)) = false from rfl, bP_false]
    obtain ⟨⟨n, hpk⟩, g0, ⟨x, y, z, gr⟩, ⟨tv, nv, pv, g1, g2, ⟨nr, g3, g4⟩, pr, g5, g6⟩, gk⟩ := a
    refine obP_of (ldN_has (l := [tv, nv, pv]) g1 rfl) ?_
    have s1 := isSl_facts g2.rows.isSl
    have s2 := isSl_facts g3.rows.isSl
    have s3 := isSl_facts g5.rows.isSl
    refine st_ok (c' := [tv, nv, pv]) gr rfl rfl rfl rfl (by simp) (by show sel (okCell tv) (sel (okCell nv) (sel (okCell pv) true false) false) false = true; rw [s1.1, s2.1, s3.1]; rfl) rfl ?_
    have f : KS n0 [] [28] h (h.upd b2 (.cells [tv, nv, pv] 28 .exact)) := KS.upd _ gr g0.1 (by simp)
    refine obP_of (ldN_has (l := [tv, nv, pv]) (gr.upd_self _) rfl) ?_
    generalize h.upd b2 (.cells [tv, nv, pv] 28 .exact) = h' at f ⊢
    refine fin _ h' prods ⟨tv, nv, pv, rfl, g2.rows.ks f (by decide) (by decide), ⟨nr, g3.rows.ks f (by decide) (by decide), g4.mono fun a b hab => hab.ks f (by decide) (by decide)⟩, pr, g5.rows.ks f (by decide) (by decide), g6.mono fun a b hab => hab.ks f (by decide) (by decide)⟩ (by omega) (by omega) hp ⟨n, hpk.ks f (by decide) (by decide) (by decide) (by decide)⟩ (gk.trans (f.mono (by simp) (by simp)))
  | succ m ih =>
    intro prods h hk h0k hp a
    apply R16_4
    simp only [ibin_gtr, obP_some, asB_bool, show decide ((0 : Int) < ((m + 1 : Nat) : Int)) = true from decide_eq_true (by omega), bP_true]
    have a' := a
    obtain ⟨⟨n, hpk⟩, g0, ⟨x, y, z, gr⟩, ⟨tv, nv, pv, g1, g2, ⟨nr, g3, g4⟩, pr, g5, g6⟩, gk⟩ := a'
    have hnr : nr.length = N.length := g4.len
    rw [fa_ptr, obP_some]
    refine obP_of (ld1_has g1 (o := 0 + 1) rfl) ?_
    rw [g3.rows.len, obP_some, hnr]
    refine num_ok hpk hN.1 fun left n1 h1 hl hp1 f1 => ?_
    refine obP_of (a := .agg ⟨[.int .i64 (left : Int), .slice none 0 0, .slice none 0 0]⟩) rfl ?_
    rw [al_ok, oh_some]
    have e2 := Ext.push h1 (.cells [(Value.int .i64 0), (Value.slice none 0 0), (Value.slice none 0 0)] 37 .exact)
    have q2 : Has (h1.push (.cells [(Value.int .i64 0), (Value.slice none 0 0), (Value.slice none 0 0)] 37 .exact)) h1.n (.cells [(Value.int .i64 0), (Value.slice none 0 0), (Value.slice none 0 0)] 37 .exact) := Has.push_self _ _
    generalize h1.push (.cells [(Value.int .i64 0), (Value.slice none 0 0), (Value.slice none 0 0)] 37 .exact) = h2 at e2 q2 ⊢
    refine st_ok (c' := [.int .i64 (left : Int), .slice none 0 0, .slice none 0 0]) q2 rfl rfl rfl rfl (by simp) rfl rfl ?_
    have f3 : KS h.n [] [37] h2 (h2.upd h1.n (.cells [.int .i64 (left : Int), .slice none 0 0, .slice none 0 0] 37 .exact)) := KS.upd _ q2 f1.n (by simp)
    have q3 : Has (h2.upd h1.n (.cells [.int .i64 (left : Int), .slice none 0 0, .slice none 0 0] 37 .exact)) h1.n (.cells [.int .i64 (left : Int), .slice none 0 0, .slice none 0 0] 37 .exact) := q2.upd_self _
    generalize h2.upd h1.n (.cells [.int .i64 (left : Int), .slice none 0 0, .slice none 0 0] 37 .exact) = h3 at f3 q3 ⊢
    have hp3 := (hp1.ext e2).ks f3 (by decide) (by decide) (by decide) (by decide)
    have d3 : DS h h3 pb h1.n lv l left T.length N.length [] := ⟨⟨n1, hp3⟩, ((f1.mono (by simp) (by simp)).trans (KS.ext e2)).trans (f3.mono (by simp) (by simp)), f1.n, ⟨_, q3, Grow.nil _ _ _ _⟩, (fun s hs => by cases hs), hl⟩
    refine d3.num (m := 4) (by omega) fun k h4 hk4 d4 _ => ?_
    refine prods5 hT hN hok (by omega) (by omega) a (fun p h' a' hp' => ih (prods ++ [p]) h' (by simp; omega) (by simp; omega) ?_ a') k [] h4 (by simp; omega) d4
    intro x hx
    rcases List.mem_append.1 hx with h | h
    · exact hp x h
    · simp at h; subst h; exact hp'
end
/-- What a grammar made of numbers is. -/
theorem grammar_ok {h : DH} {pb n : Nat} {lv : Value} {l : List Nat} {Z : Value → DH → Prop} (hp : PK h pb lv l n)
    (K : ∀ v g n' h', GmAt h' v g → Made g → PK h' pb lv l n' → KS h.n [97] [] h h' → Z v h') : CP Try.prog 16 [.pointer (some ⟨pb, 0, none⟩)] h Z := by
  apply R16
  rw [al_ok, oh_some]
  refine obP_of (a := .agg ⟨[.slice none 0 0, .slice none 0 0, .slice none 0 0]⟩) rfl ?_
  have e1 := Ext.push h (.cells [(Value.slice none 0 0), (Value.slice none 0 0), (Value.slice none 0 0)] 28 .exact)
  have q1 : Has (h.push (.cells [(Value.slice none 0 0), (Value.slice none 0 0), (Value.slice none 0 0)] 28 .exact)) h.n (.cells [(Value.slice none 0 0), (Value.slice none 0 0), (Value.slice none 0 0)] 28 .exact) := Has.push_self _ _
  have hn1 : (h.push (.cells [(Value.slice none 0 0), (Value.slice none 0 0), (Value.slice none 0 0)] 28 .exact)).n = h.n + 1 := rfl
  generalize h.push (.cells [(Value.slice none 0 0), (Value.slice none 0 0), (Value.slice none 0 0)] 28 .exact) = h1 at e1 q1 hn1 ⊢
  rw [al_ok, oh_some]
  have e2 := Ext.push h1 (.cells [(Value.slice none 0 0), (Value.slice none 0 0), (Value.slice none 0 0)] 28 .exact)
  have q2 : Has (h1.push (.cells [(Value.slice none 0 0), (Value.slice none 0 0), (Value.slice none 0 0)] 28 .exact)) h1.n (.cells [(Value.slice none 0 0), (Value.slice none 0 0), (Value.slice none 0 0)] 28 .exact) := Has.push_self _ _
  generalize h1.push (.cells [(Value.slice none 0 0), (Value.slice none 0 0), (Value.slice none 0 0)] 28 .exact) = h2 at e2 q2 ⊢
  refine st_ok (c' := [(Value.slice none 0 0), (Value.slice none 0 0), (Value.slice none 0 0)]) q2 rfl rfl rfl rfl (by simp) rfl rfl ?_
  have f3 : KS h.n [] [28] h2 (h2.upd h1.n (.cells [(Value.slice none 0 0), (Value.slice none 0 0), (Value.slice none 0 0)] 28 .exact)) := KS.upd _ q2 e1.n (by simp)
  have q3 : Has (h2.upd h1.n (.cells [(Value.slice none 0 0), (Value.slice none 0 0), (Value.slice none 0 0)] 28 .exact)) h1.n (.cells [(Value.slice none 0 0), (Value.slice none 0 0), (Value.slice none 0 0)] 28 .exact) := q2.upd_self _
  have q13 := (q1.ext e2).upd_ne (c := h1.n) (.cells [(Value.slice none 0 0), (Value.slice none 0 0), (Value.slice none 0 0)] 28 .exact) (by omega)
  generalize h2.upd h1.n (.cells [(Value.slice none 0 0), (Value.slice none 0 0), (Value.slice none 0 0)] 28 .exact) = h3 at f3 q3 q13 ⊢
  have fk : KS h.n [] [28] h h3 := (KS.ext (e1.trans e2)).trans f3
  have hp3 := hp.ks fk (by decide) (by decide) (by decide) (by decide)
  have a3 : GS h.n h h3 pb h.n h1.n lv l ⟨[], [], []⟩ := ⟨⟨n, hp3⟩, ⟨Nat.le_refl _, e1.n, by omega, fk.n⟩, ⟨_, _, _, q13⟩, ⟨_, _, _, q3, Grow.nil _ _ _ _, ⟨[], Grow.nil _ _ _ _, trivial⟩, [], Grow.nil _ _ _ _, trivial⟩, fk.mono (by simp) (by simp)⟩
  refine a3.num (m := 3) (by omega) fun r h4 hr a4 _ => ?_
  rw [ibin_inc (by omega), obP_some]
  refine toks_loop (r + 1) (fun h5 k a5 hk0 hk3 => ?_) 0 h4 (by omega) (by omega) a4
  have hT : ((List.range k).map tokAt).length = k := by simp
  refine a5.num (m := 4) (by omega) fun r2 h6 hr2 a6 _ => ?_
  rw [ibin_inc (by omega), obP_some]
  refine nts_loop (by omega) (r2 + 1) (fun h7 nts a7 hn0 hn4 hok => ?_) [] h6 (by simp; omega) (by simp) (fun i t ht => by simp at ht) a6
  refine a7.num (m := 7) (by omega) fun r3 h8 hr3 a8 _ => ?_
  rw [ibin_inc (by omega), obP_some]
  refine prods_loop (by omega) (by omega) hok (r3 + 1) (fun v h9 prods g hp0 hp7 hpo hpk ks => ?_) [] h8 (by simp; omega) (by simp) (fun p hp => by cases hp) a8
  obtain ⟨n9, hpk⟩ := hpk
  exact K v _ n9 h9 g ⟨⟨k, hk0, hk3, rfl⟩, ⟨hn0, hn4, hok⟩, ⟨hp0, hp7, hpo⟩⟩ hpk ks.out
end Go.Det
end
/- The places of a nonterminal's productions. -/
set_option linter.unusedVariables false
set_option linter.unusedSimpArgs false
noncomputable section
namespace Go.Det
open Go.Proofs

def intRows (l : List Nat) : List (List Value) := l.map fun n : Nat => [.int .i64 (n : Int)]
@[simp] theorem intRows_len (l : List Nat) : (intRows l).length = l.length := by simp [intRows]
theorem intRows_at {l : List Nat} {j x : Nat} (h : l[j]? = some x) : (intRows l)[j]? = some [.int .i64 (x : Int)] := by simp [intRows, h]
def isOf (ps : List Pd) (nt i : Nat) : Bool := match ps[i]? with
  | some p => p.left == nt
  | none => false
def offs (ps : List Pd) (nt : Nat) : List Nat := (List.range ps.length).filter (isOf ps nt)
theorem offs_succ (ps : List Pd) (nt k : Nat) : (List.range (k + 1)).filter (isOf ps nt) = (List.range k).filter (isOf ps nt) ++ (if isOf ps nt k then [k] else []) := by
  rw [List.range_succ, List.filter_append]
  congr 1
  by_cases h : isOf ps nt k = true
  · simp [h]
  · simp at h; simp [h]
theorem offset_ok {h : DH} {v : Value} {g : Gm} {nt : Nat} {Z : Value → DH → Prop} (a : GmAt h v g) (hl : g.prods.length < 1000000)
    (K : ∀ out h', RowsAt h' out 3 1 (intRows (offs g.prods nt)) → Ext h h' → Z out h') : CP Try.prog 17 [v, .int .i64 (nt : Int)] h Z := by
  obtain ⟨tv, nv, pv, rfl, g1, g2, pr, g3, g4⟩ := a
  apply R17
  refine bx_ok rfl rfl ?_
  have e1 := Ext.push h (.cells [tv, nv, pv] 28 .exact)
  have q1 : Has (h.push (.cells [tv, nv, pv] 28 .exact)) h.n (.cells [tv, nv, pv] 28 .exact) := Has.push_self _ _
  have hpl : pr.length = g.prods.length := g4.len
  rw [fa_ptr, obP_some]
  refine obP_of (ld1_has q1 (o := 0 + 2) rfl) ?_
  rw [g3.len, obP_some, hpl]
  have key : ∀ (m k : Nat) (out : Value) (h' : DH), g.prods.length - k ≤ m → k ≤ g.prods.length → KS h.n [] [37, 3] h h' → Grow h' out 3 1 (intRows ((List.range k).filter (isOf g.prods nt))) h.n → ((List.range k).filter (isOf g.prods nt)).length ≤ k →
      A17_1 (.int .i64 (nt : Int)) out pv (.int .i64 (g.prods.length : Int)) (.int .i64 (k : Int)) h' Z := by
    intro m
    induction m with
    | zero =>
      intro k out h' hm hk f go hol
      apply R17_1
      have : k = g.prods.length := by omega
      subst this
      simp only [ibin_lss, obP_some, asB_bool, show decide ((g.prods.length : Int) < (g.prods.length : Int)) = false from decide_eq_false (by omega), bP_false]
      exact K out h' go.rows (f.toExt (Nat.le_refl _))
    | succ m ih =>
      intro k out h' hm hk f go hol
      apply R17_1
      by_cases hlt : k < g.prods.length
      · simp only [ibin_lss, obP_some, asB_bool, show decide ((k : Int) < (g.prods.length : Int)) = true from decide_eq_true (by omega), bP_true]
        have g3' := g3.out f (by simp)
        obtain ⟨row, hj, rv, uv, rfl, hr, hu⟩ := g4.get (List.getElem?_eq_getElem hlt)
        obtain ⟨b, q, c, md, k1, k2, k3, k4, k5, k6⟩ := g3'.at_ (k := .i64) hj
        rw [k1, obP_some]
        refine obP_of (ldN_has k3 k4) ?_
        rw [al_ok, oh_some]
        have e2 := Ext.push h' (.cells [(Value.int .i64 0), (Value.slice none 0 0), (Value.slice none 0 0)] 37 .exact)
        have q2 : Has (h'.push (.cells [(Value.int .i64 0), (Value.slice none 0 0), (Value.slice none 0 0)] 37 .exact)) h'.n (.cells [(Value.int .i64 0), (Value.slice none 0 0), (Value.slice none 0 0)] 37 .exact) := Has.push_self _ _
        have go2 := go.ext e2
        generalize h'.push (.cells [(Value.int .i64 0), (Value.slice none 0 0), (Value.slice none 0 0)] 37 .exact) = h2 at e2 q2 go2 ⊢
        have su := isSl_facts hu
        have sr := isSl_facts hr.isSl
        refine st_ok (c' := [.int .i64 (g.prods[k].left : Int), rv, uv]) q2 rfl rfl rfl rfl (by simp) (by show sel true (sel (okCell rv) (sel (okCell uv) true false) false) false = true; rw [sr.1, su.1]; rfl) rfl ?_
        have f3 : KS h.n [] [37] h2 (h2.upd h'.n (.cells [.int .i64 (g.prods[k].left : Int), rv, uv] 37 .exact)) := KS.upd _ q2 f.n (by simp)
        have q3 : Has (h2.upd h'.n (.cells [.int .i64 (g.prods[k].left : Int), rv, uv] 37 .exact)) h'.n (.cells [.int .i64 (g.prods[k].left : Int), rv, uv] 37 .exact) := q2.upd_self _
        generalize h2.upd h'.n (.cells [.int .i64 (g.prods[k].left : Int), rv, uv] 37 .exact) = h3 at f3 q3 ⊢
        have go3 := go2.ks f3 (by decide) (by decide)
        have f03 : KS h.n [] [37, 3] h h3 := (f.trans (KS.ext e2)).trans (f3.mono (by simp) (by simp))
        rw [fa_ptr, obP_some]
        refine obP_of (ld1_has q3 (o := 0 + 0) rfl) ?_
        rw [ibin_eql, obP_some, asB_bool, obP_some]
        have hof : isOf g.prods nt k = (g.prods[k].left == nt) := by unfold isOf; rw [List.getElem?_eq_getElem hlt]
        by_cases he : g.prods[k].left = nt
        · rw [show decide ((g.prods[k].left : Int) = (nt : Int)) = true from decide_eq_true (by omega), bP_true]
          have hs := offs_succ g.prods nt k
          rw [hof, show (g.prods[k].left == nt) = true from by simp [he], if_pos rfl] at hs
          refine app1 go3 f03.n rfl rfl rfl rfl rfl rfl (by decide) (room_ok (by simp; omega) (by simp; omega) (by omega)) fun v' h4 g5 f5 => ?_
          have fk : KS h.n [] [3] h3 h4 := KS.grow go3 f5 (by simp)
          rw [ibin_inc (by omega), obP_some]
          refine ih (k + 1) v' h4 (by omega) hlt (f03.trans (fk.mono (by simp) (by simp))) ?_ (by rw [hs]; simp; omega)
          rw [hs]
          have : intRows ((List.range k).filter (isOf g.prods nt) ++ [k]) = intRows ((List.range k).filter (isOf g.prods nt)) ++ [[.int .i64 (k : Int)]] := by simp [intRows]
          rw [this]; exact g5
        · rw [show decide ((g.prods[k].left : Int) = (nt : Int)) = false from decide_eq_false (by omega), bP_false]
          have hs := offs_succ g.prods nt k
          rw [hof, show (g.prods[k].left == nt) = false from by simp [he], if_neg (by simp), List.append_nil] at hs
          rw [ibin_inc (by omega), obP_some]
          refine ih (k + 1) out h3 (by omega) hlt f03 ?_ (by rw [hs]; omega)
          rw [hs]; exact go3
      · have : k = g.prods.length := by omega
        subst this
        simp only [ibin_lss, obP_some, asB_bool, show decide ((g.prods.length : Int) < (g.prods.length : Int)) = false from decide_eq_false (by omega), bP_false]
        exact K out h' go.rows (f.toExt (Nat.le_refl _))
  exact key _ 0 _ _ (Nat.le_refl _) (Nat.zero_le _) (KS.ext e1) (Grow.nil _ _ _ _) (by simp)
end Go.Det
end
/- GramOffset: each production is one nonterminal's, at its place: the walk, and what it rests on. -/
set_option linter.unusedVariables false
set_option linter.unusedSimpArgs false
noncomputable section
namespace Go.Det
open Go.Proofs

/-! ### plain -/
theorem offs_mem {ps : List Pd} {nt x : Nat} (h : x ∈ offs ps nt) : ∃ p, ps[x]? = some p ∧ p.left = nt := by
  have := (List.mem_filter.1 h).2
  unfold isOf at this
  split at this
  · rename_i p hp; exact ⟨p, hp, by simpa using this⟩
  · cases this
theorem offs_sorted (ps : List Pd) (nt : Nat) : (offs ps nt).Pairwise (· < ·) := List.Pairwise.filter _ List.pairwise_lt_range
theorem offs_lt {ps : List Pd} {nt i x y : Nat} (hx : (offs ps nt)[i + 1]? = some x) (hy : (offs ps nt)[i]? = some y) : y < x := by
  have hi : i + 1 < (offs ps nt).length := (List.getElem?_eq_some_iff.1 hx).1
  have := List.pairwise_iff_getElem.1 (offs_sorted ps nt) i (i + 1) (by omega) hi (by omega)
  rw [List.getElem?_eq_getElem hi] at hx
  rw [List.getElem?_eq_getElem (by omega)] at hy
  simp at hx hy
  omega
/-- How many of the first productions are of the first nonterminals. -/
def cnt (ps : List Pd) (nt : Nat) : Nat := ((List.range ps.length).filter fun i => match ps[i]? with | some p => decide (p.left < nt) | none => false).length
theorem cnt_zero (ps : List Pd) : cnt ps 0 = 0 := by
  unfold cnt
  rw [List.length_eq_zero_iff, List.filter_eq_nil_iff]
  intro i hi
  split <;> simp
theorem filter_len_add {α : Type} (l : List α) (p q r : α → Bool) (h : ∀ x, x ∈ l → (r x = (p x || q x)) ∧ ¬ (p x = true ∧ q x = true)) : (l.filter r).length = (l.filter p).length + (l.filter q).length := by
  induction l with
  | nil => rfl
  | cons a l ih =>
    have ha := h a (List.mem_cons_self ..)
    have := ih fun x hx => h x (List.mem_cons_of_mem _ hx)
    rw [List.filter_cons, List.filter_cons, List.filter_cons, ha.1]
    cases hp : p a <;> cases hq : q a <;> simp [hp, hq] at ha ⊢ <;> omega
theorem cnt_succ (ps : List Pd) (nt : Nat) : cnt ps (nt + 1) = cnt ps nt + (offs ps nt).length := by
  unfold cnt offs
  refine filter_len_add _ _ _ _ fun x hx => ?_
  unfold isOf
  cases ps[x]? with
  | none => simp
  | some p =>
    show decide (p.left < nt + 1) = (decide (p.left < nt) || p.left == nt) ∧ ¬ (decide (p.left < nt) = true ∧ (p.left == nt) = true)
    refine ⟨?_, ?_⟩
    · rcases Nat.lt_trichotomy p.left nt with h | h | h
      · rw [show decide (p.left < nt + 1) = true from decide_eq_true (by omega), show decide (p.left < nt) = true from decide_eq_true h]; rfl
      · subst h; rw [show decide (p.left < p.left + 1) = true from decide_eq_true (by omega)]; simp
      · rw [show decide (p.left < nt + 1) = false from decide_eq_false (by omega), show decide (p.left < nt) = false from decide_eq_false (by omega), show (p.left == nt) = false from by simp; omega]; rfl
    · simp; omega
theorem cnt_all {ps : List Pd} {nn : Nat} (h : ∀ p, p ∈ ps → p.left < nn) : cnt ps nn = ps.length := by
  unfold cnt
  rw [List.filter_eq_self.2, List.length_range]
  intro i hi
  simp at hi
  rw [List.getElem?_eq_getElem hi]
  simpa using h _ (List.getElem_mem hi)
theorem offs_none {ps : List Pd} {nn : Nat} (h : ∀ p, p ∈ ps → p.left < nn) : offs ps nn = [] := by
  unfold offs
  rw [List.filter_eq_nil_iff]
  intro i hi
  unfold isOf
  split
  · rename_i p hp
    have := h p (List.mem_of_getElem? hp)
    simp; omega
  · simp
theorem offs_le (ps : List Pd) (nt : Nat) : (offs ps nt).length ≤ ps.length := by
  have := List.length_filter_le (isOf ps nt) (List.range ps.length)
  simpa [offs] using this
theorem cnt_le (ps : List Pd) (nt : Nat) : cnt ps nt ≤ ps.length := by
  have := List.length_filter_le (fun i => match ps[i]? with | some p => decide (p.left < nt) | none => false) (List.range ps.length)
  simpa [cnt] using this

/-! ### the walk -/
theorem gmBox {h : DH} {v : Value} {g : Gm} (a : GmAt h v g) : ∃ tv nv pv, v = .agg ⟨[tv, nv, pv]⟩ ∧ okCell tv = true ∧ okCell nv = true ∧ okCell pv = true := by
  obtain ⟨tv, nv, pv, rfl, g1, ⟨nr, g2, _⟩, pr, g3, _⟩ := a
  exact ⟨tv, nv, pv, rfl, (isSl_facts g1.isSl).1, (isSl_facts g2.isSl).1, (isSl_facts g3.isSl).1⟩
section
variable {g : Gm} {b3 : Nat} {tv nv pv : Value}
theorem inner {h : DH} {v6 : Value} {nt n : Nat} (hm : Made g) (q : Has h b3 (.cells [tv, nv, pv] 28 .exact)) (a : GmAt h (.agg ⟨[tv, nv, pv]⟩) g) (hL : RowsAt h v6 3 1 (intRows (offs g.prods nt))) (hn : n ≤ 7)
    (next : A3_1 (.pointer (some ⟨b3, 0, none⟩)) (.int .i64 ((n + (offs g.prods nt).length : Nat) : Int)) (.int .i64 ((nt + 1 : Nat) : Int)) h fun v _ => v = .bool true) (hnt : nt < 100) (m : Nat) :
    ∀ i, (offs g.prods nt).length - i ≤ m → A3_2 (.pointer (some ⟨b3, 0, none⟩)) (.int .i64 (n : Int)) (.int .i64 (nt : Int)) v6 (.int .i64 (i : Int)) h fun v _ => v = .bool true := by
  have hol := offs_le g.prods nt
  have hp7 := hm.p.2.1
  obtain ⟨tv', nv', pv', e, g1, g2, pr, g3, g4⟩ := a
  simp only [Value.agg.injEq, Array.mk.injEq, List.cons.injEq, and_true] at e
  obtain ⟨rfl, rfl, rfl⟩ := e
  have hpl : pr.length = g.prods.length := g4.len
  have done : ∀ i, (offs g.prods nt).length ≤ i → A3_2 (.pointer (some ⟨b3, 0, none⟩)) (.int .i64 (n : Int)) (.int .i64 (nt : Int)) v6 (.int .i64 (i : Int)) h fun v _ => v = .bool true := by
    intro i hi
    apply R3_2
    simp only [hL.len, intRows_len, obP_some, ibin_lss, asB_bool, show decide ((i : Int) < ((offs g.prods nt).length : Int)) = false from decide_eq_false (by omega), bP_false]
    rw [ibin_addN (by omega), obP_some, ibin_inc (by omega), obP_some]
    exact next
  induction m with
  | zero => intro i hi; exact done i (by omega)
  | succ m ih =>
    intro i hi
    by_cases hlt : i < (offs g.prods nt).length
    · apply R3_2
      have hx : (offs g.prods nt)[i]? = some (offs g.prods nt)[i] := List.getElem?_eq_getElem hlt
      generalize hxe : (offs g.prods nt)[i] = x at hx
      obtain ⟨p, hp, hpl2⟩ := offs_mem (List.mem_of_getElem? hx)
      have hxl : x < g.prods.length := (List.getElem?_eq_some_iff.1 hp).1
      obtain ⟨b, s, c, md, k1, k2, k3, k4, k5, k6⟩ := hL.at_ (k := .i64) (intRows_at hx)
      have l1 := ld1_has k3 ((k6 0 (by omega)).trans rfl)
      obtain ⟨row, hj, rv, uv, rfl, hr, hu⟩ := g4.get hp
      obtain ⟨b', s', c', md', k1', k2', k3', k4', k5', k6'⟩ := g3.at_ (k := .i64) hj
      have l2 := ld1_has k3' ((k6' 0 (by omega)).trans rfl)
      have l3 := ld1_has q (o := 2) (v := pv) rfl
      simp only [Nat.add_zero] at l1 l2
      simp only [hL.len, intRows_len, obP_some, ibin_lss, asB_bool, show decide ((i : Int) < ((offs g.prods nt).length : Int)) = true from decide_eq_true (by omega), bP_true, k1, l1, show decide ((x : Int) < 0) = false from decide_eq_false (by omega), gotB_false, Bool.not_false, g1_true, sel_true,
        fa_ptr, Nat.zero_add, Nat.add_zero, l3, g3.len, hpl, ibin_geq, show decide ((g.prods.length : Int) ≤ (x : Int)) = false from decide_eq_false (by omega), pk_bool, sel_false, k1', l2, ibin_neq, hpl2, decide_true, Bool.not_true, ibin_gtr, gotB_true]
      by_cases h0 : 0 < i
      · obtain ⟨j, rfl⟩ : ∃ j, i = j + 1 := ⟨i - 1, by omega⟩
        have hy : (offs g.prods nt)[j]? = some (offs g.prods nt)[j] := List.getElem?_eq_getElem (by omega)
        generalize (offs g.prods nt)[j] = y at hy
        have hlt2 := offs_lt hx hy
        obtain ⟨b2, s2, c2, md2, j1, j2, j3, j4, j5, j6⟩ := hL.at_ (k := .i64) (intRows_at hy)
        have l4 := ld1_has j3 ((j6 0 (by omega)).trans rfl)
        simp only [Nat.add_zero] at l4
        simp only [show decide ((0 : Int) < ((j + 1 : Nat) : Int)) = true from decide_eq_true (by omega), g1_true, sel_true, k1, l1, obP_some, ibin_dec (n := j) (by omega), j1, l4, ibin_leq, show decide ((x : Int) ≤ (y : Int)) = false from decide_eq_false (by omega), pk_bool, sel_false, asB_bool, bP_false]
        rw [ibin_inc (by omega), obP_some]
        exact ih (j + 1 + 1) (by omega)
      · have : i = 0 := by omega
        subst this
        simp only [show decide ((0 : Int) < ((0 : Nat) : Int)) = false from rfl, g1_false, sel_false, pk_bool, asB_bool, obP_some, bP_false]
        rw [ibin_inc (by omega), obP_some]
        exact ih 1 (by omega)
    · exact done i (by omega)
theorem outer (hm : Made g) (m : Nat) : ∀ (nt : Nat) (h : DH), g.nts.length - nt ≤ m → nt ≤ g.nts.length → Has h b3 (.cells [tv, nv, pv] 28 .exact) → GmAt h (.agg ⟨[tv, nv, pv]⟩) g →
    A3_1 (.pointer (some ⟨b3, 0, none⟩)) (.int .i64 (cnt g.prods nt : Int)) (.int .i64 (nt : Int)) h fun v _ => v = .bool true := by
  have hleft : ∀ p, p ∈ g.prods → p.left < g.nts.length := fun p hp => (hm.p.2.2 p hp).1
  have done : ∀ (h : DH), Has h b3 (.cells [tv, nv, pv] 28 .exact) → GmAt h (.agg ⟨[tv, nv, pv]⟩) g → A3_1 (.pointer (some ⟨b3, 0, none⟩)) (.int .i64 (cnt g.prods g.nts.length : Int)) (.int .i64 (g.nts.length : Int)) h fun v _ => v = .bool true := by
    intro h q a
    have a' := a
    apply R3_1
    obtain ⟨tv', nv', pv', e, g1, ⟨nr, g2, g2'⟩, pr, g3, g4⟩ := a'
    simp only [Value.agg.injEq, Array.mk.injEq, List.cons.injEq, and_true] at e
    obtain ⟨rfl, rfl, rfl⟩ := e
    have hpl : pr.length = g.prods.length := g4.len
    have hnl : nr.length = g.nts.length := g2'.len
    simp only [fa_ptr, obP_some, Nat.zero_add, ld1_has q (o := 1) (v := nv) rfl, g2.len, hnl, ibin_lss, asB_bool, show decide ((g.nts.length : Int) < (g.nts.length : Int)) = false from decide_eq_false (by omega), bP_false, ld1_has q (o := 2) (v := pv) rfl, g3.len, hpl, ibin_eql, cnt_all hleft,
      decide_true, gotB_true, g1_true, ldN_has (s := 3) (o := 0) (l := [tv, nv, pv]) q rfl, g4_true]
    refine offset_ok a (by have := hm.p.2.1; omega) fun out h' hr e => ?_
    rw [hr.len, intRows_len, offs_none hleft]
    rfl
  induction m with
  | zero =>
    intro nt h hm' hle q a
    have : nt = g.nts.length := by omega
    subst this
    exact done h q a
  | succ m ih =>
    intro nt h hm' hle q a
    by_cases hlt : nt < g.nts.length
    · have a' := a
      apply R3_1
      obtain ⟨tv', nv', pv', e, g1, ⟨nr, g2, g2'⟩, pr, g3, g4⟩ := a'
      simp only [Value.agg.injEq, Array.mk.injEq, List.cons.injEq, and_true] at e
      obtain ⟨rfl, rfl, rfl⟩ := e
      have hnl : nr.length = g.nts.length := g2'.len
      have h4 := hm.n.2.1
      simp only [fa_ptr, obP_some, Nat.zero_add, ld1_has q (o := 1) (v := nv) rfl, g2.len, hnl, ibin_lss, asB_bool, show decide ((nt : Int) < (g.nts.length : Int)) = true from decide_eq_true (by omega), bP_true, ldN_has (s := 3) (o := 0) (l := [tv, nv, pv]) q rfl]
      refine offset_ok a (by have := hm.p.2.1; omega) fun out h' hr e => ?_
      have a2 := a.ks (n0 := 0) (o := []) (ts := []) (KS.ext e) (by simp)
      have := cnt_le g.prods nt
      have h7 := hm.p.2.1
      refine inner hm (q.ext e) a2 hr (by omega) ?_ (by omega) _ 0 (Nat.le_refl _)
      rw [← cnt_succ]
      exact ih (nt + 1) h' (by omega) hlt (q.ext e) a2
    · have : nt = g.nts.length := by omega
      subst this
      exact done h q a
end
theorem gramOffset_walk {h : DH} {lv : Value} {l : List Nat} (hb : CP Try.prog 14 [] h fun v h' => v = .bool true ∧ Ext h h') (a : RowsAt h lv 5 1 (byteRows l)) (hl : ∀ b, b ∈ l → b < 256) : CP Try.prog 3 [lv] h fun v _ => v = .bool true := by
  apply R3
  refine hb.mono ?_
  rintro v h2 ⟨rfl, e⟩
  have a2 := a.ext e
  have hlen : (byteRows l).length = l.length := by simp [byteRows]
  simp only [bnot_bool, obP_some, asB_bool, Bool.not_true, bP_false, a2.len, hlen, ibin_gtr]
  by_cases hbig : 150 < l.length
  · rw [show decide ((150 : Int) < (l.length : Int)) = true from decide_eq_true (by omega)]
    exact trivial
  · rw [show decide ((150 : Int) < (l.length : Int)) = false from decide_eq_false (by omega), bP_false]
    refine made_ok a2 (by omega) hl fun h3 hp e3 => ?_
    refine grammar_ok hp fun v g n' h4 ga hm hp' ks => ?_
    obtain ⟨tv, nv, pv, rfl, o1, o2, o3⟩ := gmBox ga
    rw [al_ok, oh_some]
    have e5 := Ext.push h4 (.cells [(Value.slice none 0 0), (Value.slice none 0 0), (Value.slice none 0 0)] 28 .exact)
    have q5 : Has (h4.push (.cells [(Value.slice none 0 0), (Value.slice none 0 0), (Value.slice none 0 0)] 28 .exact)) h4.n (.cells [(Value.slice none 0 0), (Value.slice none 0 0), (Value.slice none 0 0)] 28 .exact) := Has.push_self _ _
    generalize h4.push (.cells [(Value.slice none 0 0), (Value.slice none 0 0), (Value.slice none 0 0)] 28 .exact) = h5 at e5 q5 ⊢
    refine st_ok (c' := [tv, nv, pv]) q5 rfl rfl rfl rfl (by simp) (by show sel (okCell tv) (sel (okCell nv) (sel (okCell pv) true false) false) false = true; rw [o1, o2, o3]; rfl) rfl ?_
    have f6 : KS h4.n [] [28] h5 (h5.upd h4.n (.cells [tv, nv, pv] 28 .exact)) := KS.upd _ q5 (Nat.le_refl _) (by simp)
    have q6 : Has (h5.upd h4.n (.cells [tv, nv, pv] 28 .exact)) h4.n (.cells [tv, nv, pv] 28 .exact) := q5.upd_self _
    generalize h5.upd h4.n (.cells [tv, nv, pv] 28 .exact) = h6 at f6 q6 ⊢
    have := outer hm g.nts.length 0 h6 (by omega) (Nat.zero_le _) q6 ((ga.ks (n0 := 0) (o := []) (ts := []) (KS.ext e5) (by simp)).ks f6 (by decide))
    rw [cnt_zero] at this
    exact this
end Go.Det
end

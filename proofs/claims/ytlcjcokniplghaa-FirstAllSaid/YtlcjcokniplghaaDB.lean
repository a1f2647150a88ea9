/- Maps. -/
import Derived.Control
import Derived.MapKept
import Derived.Test.YtlcjcokniplghaaDA
set_option linter.unusedVariables false
set_option linter.unusedSimpArgs false
namespace Go.Det
variable {P : Program}

theorem pureRun_bind {α β : Type} (s : Sem α) (f : α → Sem β) : pureRun P (s >>= f) = ob (pureRun P s) fun a => pureRun P (f a) := by
  show pureRun P (s.bind f) = _
  induction s with
  | pure a => rfl
  | program k ih => exact ih P
  | _ => rfl

/-! ### keys -/
def FindR (i : Nat) (es' : List MapEntry) : Option (Nat × Value) → Option (Nat × Value) → Prop
  | none, none => True
  | some (j, _), some (j', v') => j = j' ∧ i ≤ j ∧ ∃ e, es'[j - i]? = some e ∧ v' = e.val
  | _, _ => False
theorem FindR.skip {i : Nat} {e : MapEntry} {es' : List MapEntry} {r r' : Option (Nat × Value)} (h : FindR (i + 1) es' r r') : FindR i (e :: es') r r' := by
  cases r with
  | none => cases r' with
    | none => trivial
    | some p => exact h.elim
  | some p => cases r' with
    | none => exact h.elim
    | some p' =>
      obtain ⟨h1, h2, e', h3, h4⟩ := h
      refine ⟨h1, by omega, e', ?_, h4⟩
      rw [show p.1 - i = (p.1 - (i + 1)) + 1 by omega]
      exact h3
theorem findNow_vals (d : TypeDesc) (k : Value) : ∀ (es es' : List MapEntry) (i : Nat) (r : Option (Nat × Value)), es.map (·.key) = es'.map (·.key) → Instr.findNow d k es i = some r →
    ∃ r', Instr.findNow d k es' i = some r' ∧ FindR i es' r r' := by
  intro es
  induction es with
  | nil =>
    intro es' i r hk h
    have : es' = [] := by simpa using hk.symm
    subst this
    simp only [Instr.findNow, Option.some.injEq] at h
    subst h
    exact ⟨none, rfl, trivial⟩
  | cons e es ih =>
    intro es' i r hk h
    cases es' with
    | nil => simp at hk
    | cons e' es' =>
      simp only [List.map_cons, List.cons.injEq] at hk
      simp only [Instr.findNow] at h ⊢
      rw [← hk.1]
      cases hn : Instr.sameNow d k e.key with
      | none => rw [hn] at h; cases h
      | some b =>
        rw [hn] at h
        cases b with
        | true =>
          simp only [Option.some.injEq] at h
          subst h
          exact ⟨_, rfl, rfl, Nat.le_refl _, e', by simp, rfl⟩
        | false =>
          obtain ⟨r', h1, h2⟩ := ih es' (i + 1) r hk.2 h
          exact ⟨r', h1, h2.skip⟩
theorem findNow_none (d : TypeDesc) (k : Value) : ∀ (es es' : List MapEntry) (i j : Nat), es.map (·.key) = es'.map (·.key) → Instr.findNow d k es i = none → Instr.findNow d k es' j = none := by
  intro es
  induction es with
  | nil => intro es' i j _ h; cases h
  | cons e es ih =>
    intro es' i j hk h
    cases es' with
    | nil => simp at hk
    | cons e' es' =>
      simp only [List.map_cons, List.cons.injEq] at hk
      simp only [Instr.findNow] at h ⊢
      rw [← hk.1]
      cases hn : Instr.sameNow d k e.key with
      | none => rfl
      | some b =>
        rw [hn] at h
        cases b with
        | true => cases h
        | false => exact ih es' (i + 1) (j + 1) hk.2 h
theorem findAsking_vals (kt : TypeId) (k : Value) : ∀ (es es' : List MapEntry) (i : Nat) (r : Option (Nat × Value)), es.map (·.key) = es'.map (·.key) → pureRun P (Instr.findAsking kt k es i) = some r →
    ∃ r', (∀ w, (Instr.findAsking kt k es' i).run P w = .ok r' w) ∧ FindR i es' r r' := by
  intro es
  induction es with
  | nil =>
    intro es' i r hk h
    have : es' = [] := by simpa using hk.symm
    subst this
    simp only [Instr.findAsking] at h
    have h : some none = some r := h
    simp only [Option.some.injEq] at h
    subst h
    exact ⟨none, fun w => rfl, trivial⟩
  | cons e es ih =>
    intro es' i r hk h
    cases es' with
    | nil => simp at hk
    | cons e' es' =>
      simp only [List.map_cons, List.cons.injEq] at hk
      simp only [Instr.findAsking] at h ⊢
      rw [pureRun_bind] at h
      obtain ⟨b, hb, h⟩ := ob_eq_some.1 h
      have hb' := pureRun_sound hb
      rw [hk.1] at hb'
      simp only [Sem.run_bind, hb', Result.andThen_ok]
      cases b with
      | true =>
        have h : some (some (i, e.val)) = some r := h
        simp only [Option.some.injEq] at h
        subst h
        exact ⟨_, fun w => rfl, rfl, Nat.le_refl _, e', by simp, rfl⟩
      | false =>
        obtain ⟨r', h1, h2⟩ := ih es' (i + 1) r hk.2 h
        exact ⟨r', h1, h2.skip⟩
theorem pureRun_underlying {t : TypeId} {d : TypeDesc} (h : pureRun P (underlying t) = some d) : P.underlying t = some d := by
  unfold underlying at h
  rw [pureRun_bind] at h
  obtain ⟨p, hp, h⟩ := ob_eq_some.1 h
  have hp : some P = some p := hp
  simp only [Option.some.injEq] at hp
  subst hp
  cases hu : P.underlying t with
  | none => rw [hu] at h; cases h
  | some d' => rw [hu] at h; exact h
theorem findKey_vals (kt : TypeId) (k : Value) (es es' : List MapEntry) (r : Option (Nat × Value)) (hk : es.map (·.key) = es'.map (·.key)) (h : pureRun P (Instr.findKey kt k es) = some r) :
    ∃ r', (∀ w, (Instr.findKey kt k es').run P w = .ok r' w) ∧ FindR 0 es' r r' := by
  unfold Instr.findKey at h ⊢
  rw [pureRun_bind] at h
  obtain ⟨d, hd, h⟩ := ob_eq_some.1 h
  have hd := pureRun_underlying hd
  simp only [Sem.run_bind, run_underlying' hd, Result.andThen_ok]
  cases hn : Instr.findNow d k es 0 with
  | some r1 =>
    rw [hn] at h
    have h : some r1 = some r := h
    simp only [Option.some.injEq] at h
    subst h
    obtain ⟨r', h1, h2⟩ := findNow_vals d k es es' 0 r1 hk hn
    rw [h1]
    exact ⟨r', fun w => rfl, h2⟩
  | none =>
    rw [hn] at h
    rw [findNow_none d k es es' 0 0 hk hn]
    exact findAsking_vals kt k es es' 0 r hk h

theorem ER.keys {ρ : Rho} {es mes : List MapEntry} (h : ER ρ es mes) : es.map (·.key) = mes.map (·.key) := by
  apply List.ext_getElem?
  intro i
  rw [List.getElem?_map, List.getElem?_map]
  cases he : es[i]? with
  | none =>
    have : mes[i]? = none := by rw [List.getElem?_eq_none_iff] at he ⊢; have := h.1; omega
    rw [this]
  | some x =>
    have hi : i < es.length := (List.getElem?_eq_some_iff.1 he).1
    have hi' : i < mes.length := by have := h.1; omega
    have h2 := h.2 i x mes[i] he (List.getElem?_eq_getElem hi')
    rw [List.getElem?_eq_getElem hi']
    simp [h2.1.2]
theorem ER.get {ρ : Rho} {es mes : List MapEntry} (h : ER ρ es mes) {i : Nat} {x : MapEntry} (hx : es[i]? = some x) : ∃ x', mes[i]? = some x' ∧ (isFlat x.key = true ∧ x'.key = x.key) ∧ VR ρ x.val x'.val ∧ x'.born = x.born := by
  have hi : i < es.length := (List.getElem?_eq_some_iff.1 hx).1
  have hi' : i < mes.length := by have := h.1; omega
  exact ⟨mes[i], List.getElem?_eq_getElem hi', h.2 i x _ hx (List.getElem?_eq_getElem hi')⟩
/-- Where a key stands. -/
theorem dfind_run {ρ : Rho} {es mes : List MapEntry} (he : ER ρ es mes) {emp : Bool} {kt : TypeId} {k k' : Value} (hk : VR ρ k k') {r : Option Nat} (hd : dfind P emp kt k es = some r) :
    k' = k ∧ isFlat k = true ∧ (∀ w, (Instr.checkKey emp 10000 kt k).run P w = .ok () w) ∧
    ((r = none ∧ ∀ w, (Instr.findKey kt k mes).run P w = .ok none w) ∨ ∃ i x, r = some i ∧ mes[i]? = some x ∧ ∀ w, (Instr.findKey kt k mes).run P w = .ok (some (i, x.val)) w) := by
  unfold dfind at hd
  rw [guard'_eq_some] at hd
  obtain ⟨hf, hd⟩ := hd
  obtain ⟨u, hu, hd⟩ := ob_eq_some.1 hd
  obtain ⟨q, hq, hd⟩ := ob_eq_some.1 hd
  simp only [Option.some.injEq] at hd
  refine ⟨hk.flat_eq hf, hf, pureRun_sound hu, ?_⟩
  unfold findAt at hq
  rw [lmap_eq] at hq
  obtain ⟨r', h1, h2⟩ := findKey_vals kt k _ mes q (by rw [List.map_map]; exact he.keys) hq
  cases q with
  | none =>
    cases r' with
    | none => exact .inl ⟨hd.symm, h1⟩
    | some p => exact h2.elim
  | some p =>
    cases r' with
    | none => exact h2.elim
    | some p' =>
      obtain ⟨g1, g2, x, g3, g4⟩ := h2
      refine .inr ⟨p.1, x, hd.symm, by simpa using g3, fun w => ?_⟩
      rw [h1 w, g1, ← g4]

theorem lset_eq {α : Type} (l : List α) (i : Nat) (x : α) : lset l i x = l.set i x := by
  induction l generalizing i with
  | nil => rfl
  | cons a l ih =>
    cases i with
    | zero => rfl
    | succ i => exact congrArg (a :: ·) (ih i)
theorem ER.set {ρ : Rho} {es : List MapEntry} {mes : Array MapEntry} (h : ER ρ es mes.toList) {i : Nat} {x : MapEntry} {f : MapEntry → MapEntry} {y : MapEntry} (hy : mes[i]? = some y)
    (hx : (isFlat x.key = true ∧ (f y).key = x.key) ∧ VR ρ x.val (f y).val ∧ (f y).born = x.born) : ER ρ (lset es i x) (mes.modify i f).toList := by
  have hi : i < mes.size := (Array.getElem?_eq_some_iff.1 hy).1
  refine ⟨by rw [lset_eq]; simpa using h.1, fun j a b ha hb => ?_⟩
  rw [lset_eq, List.getElem?_set] at ha
  rw [Array.getElem?_toList, Array.getElem?_modify] at hb
  by_cases hj : i = j
  · subst hj
    rw [if_pos rfl, hy] at hb
    simp only [Option.map_some, Option.some.injEq] at hb
    subst hb
    have : i < es.length := by have := h.1; simp at this; omega
    simp [this] at ha
    subst ha
    exact hx
  · rw [if_neg hj] at ha hb
    exact h.2 j a b ha (by simpa using hb)
theorem ER.push {ρ : Rho} {es : List MapEntry} {mes : Array MapEntry} (h : ER ρ es mes.toList) {x y : MapEntry} (hx : (isFlat x.key = true ∧ y.key = x.key) ∧ VR ρ x.val y.val ∧ y.born = x.born) : ER ρ (lapp es [x]) (mes.push y).toList := by
  rw [lapp_eq, Array.toList_push]
  refine ⟨by simpa using h.1, fun j a b ha hb => ?_⟩
  have hl := h.1
  rcases Nat.lt_or_ge j es.length with hlt | hge
  · rw [List.getElem?_append_left hlt] at ha
    rw [List.getElem?_append_left (by omega)] at hb
    exact h.2 j a b ha hb
  · rw [List.getElem?_append_right hge] at ha
    rw [List.getElem?_append_right (by omega)] at hb
    have hj : j - es.length = 0 := by
      have := (List.getElem?_eq_some_iff.1 ha).1
      simp at this; omega
    rw [hj] at ha
    rw [← hl, hj] at hb
    simp at ha hb
    subst ha; subst hb
    exact hx

theorem okPair_run {ρ : Rho} {v v' : Value} {ok b : Bool} (hv : VR ρ v v') : VR ρ (okPair ok v b) (if ok then .tuple #[v', .bool b] else v') := by
  cases ok with
  | false => exact hv
  | true => exact .tup' (.cons hv (.cons (.flat _ rfl) (.nil ρ)))
theorem isNilL_eq {ρ : Rho} {es : List MapEntry} {mes : Array MapEntry} (h : ER ρ es mes.toList) : mes.isEmpty = isNilL es := by
  have := h.1
  cases es with
  | nil => simp at this; have : mes = #[] := Array.eq_empty_of_size_eq_zero (by omega); subst this; rfl
  | cons a l => simp at this; show decide (mes.size = 0) = false; simp; rintro rfl; simp at this
theorem lookupIn_run {ρ : Rho} {es : List MapEntry} {mes : Array MapEntry} (he : ER ρ es mes.toList) {mt : MT} {z : Value} (hz : tzero P mt.e = some z) {k k' : Value} (hk : VR ρ k k') {ok : Bool} {v : Value}
    (hd : dlookupIn P mt z es k ok = some v) (w : World) :
    (Instr.checkKey mes.isEmpty 10000 mt.k k').run P w = .ok () w ∧
    (((Instr.findKey mt.k k' mes.toList).run P w = .ok none w ∧ VR ρ v (if ok then .tuple #[z, .bool false] else z)) ∨
     ∃ p, (Instr.findKey mt.k k' mes.toList).run P w = .ok (some p) w ∧ VR ρ v (if ok then .tuple #[p.2, .bool true] else p.2)) := by
  unfold dlookupIn at hd
  obtain ⟨r, h1, hd⟩ := ob_eq_some.1 hd
  obtain ⟨rfl, hf, h2, h3⟩ := dfind_run he hk h1
  rw [isNilL_eq he]
  refine ⟨h2 w, ?_⟩
  rcases h3 with ⟨rfl, h3⟩ | ⟨i, x, rfl, h3, h4⟩
  · have hd : dmiss z ok = some v := hd
    unfold dmiss at hd
    rw [guard'_eq_some] at hd
    obtain ⟨g1, g2⟩ := hd
    simp only [Option.some.injEq] at g2
    subst g2
    exact .inl ⟨h3 w, okPair_run (VR.of_flat g1)⟩
  · have hd : (ob (lget es i) fun e => some (okPair ok e.val true)) = some v := hd
    obtain ⟨e, g1, g2⟩ := ob_eq_some.1 hd
    simp only [Option.some.injEq] at g2
    subst g2
    rw [lget_eq] at g1
    exact .inr ⟨_, h4 w, okPair_run (he.2 i e x g1 h3).2.1⟩
theorem sim_lookup {ρ : Rho} {C : Con} {w : World} {h : DH} (hs : St P ρ C w) {m m' k k' : Value} (hm : VR ρ m m') (hk : VR ρ k k') (hg : Tc ρ C h m) {t : TypeId} {ok : Bool} {v : Value}
    (hd : dlookup P h t m k ok = some v) : PV P ρ w (Instr.lookup t m' k' ok) v := by
  unfold dlookup at hd
  obtain ⟨mt, h1, hd⟩ := ob_eq_some.1 hd
  obtain ⟨z, h2, hd9⟩ := ob_eq_some.1 hd
  have ht := tmap_eq h1
  cases hn : isNilMap m with
  | true =>
    rw [hn, sel_true] at hd9
    have hmn : m = .map none := by
      cases m with
      | map r => cases r with
        | none => rfl
        | some b => cases hn
      | _ => cases hn
    subst hmn
    have := hm.flat1_eq rfl
    subst this
    obtain ⟨g1, g2⟩ := lookupIn_run (mes := #[]) (es := []) ⟨rfl, fun i x x' h => by simp at h⟩ h2 hk hd9 w
    rcases g2 with ⟨g2, g3⟩ | ⟨p, g2, g3⟩
    · exact ⟨_, by simp only [Instr.lookup, Sem.run_bind, run_underlying' ht, Result.andThen_ok, Sem.run_pure, g1, g2, tzero_run h2], g3⟩
    · exact ⟨_, by simp only [Instr.lookup, Sem.run_bind, run_underlying' ht, Result.andThen_ok, Sem.run_pure, g1, g2], g3⟩
  | false =>
    rw [hn, sel_false] at hd9
    obtain ⟨b, h3, hd8⟩ := ob_eq_some.1 hd9
    obtain ⟨en, h4, hd7⟩ := ob_eq_some.1 hd8
    have := asMapB_eq h3
    subst this
    obtain ⟨e, he, rfl⟩ := hm.map_inv
    obtain ⟨kb, hkb, hbr⟩ := hs.has _ _ he
    rw [(hg b (by simp [blockOf]) (by rw [he]; simp) (by rw [ents_eq h4]; simp)).2, ents_eq h4] at hkb
    injection hkb with hkb
    subst hkb
    obtain ⟨mes, q1, q2⟩ := hbr
    obtain ⟨g1, g2⟩ := lookupIn_run q2 h2 hk hd7 w
    rcases g2 with ⟨g2, g3⟩ | ⟨p, g2, g3⟩
    · exact ⟨_, by simp only [Instr.lookup, Sem.run_bind, run_underlying' ht, Result.andThen_ok, MapKept.run_getObj_map q1, Sem.run_pure, g1, g2, tzero_run h2], g3⟩
    · exact ⟨_, by simp only [Instr.lookup, Sem.run_bind, run_underlying' ht, Result.andThen_ok, MapKept.run_getObj_map q1, Sem.run_pure, g1, g2], g3⟩

theorem keyStays {old new k' : Value} (h : pureRun P (Instr.keyThatStays old new) = some k') : k' = new ∧ ∀ w, (Instr.keyThatStays old new).run P w = .ok new w := by
  have hs := pureRun_sound h
  have : k' = new := by
    unfold Instr.keyThatStays at h
    split at h
    · have h : some new = some k' := h
      injection h with h; exact h.symm
    · rw [pureRun_bind] at h; cases h
  subst this
  exact ⟨rfl, hs⟩
theorem set_step {ρ : Rho} {C : Con} {w : World} {h : DH} (hs : St P ρ C w) {b : Nat} {e : Img} (he : ρ b = some e) (hbn : b < h.n) (hg : C b = h.get b) {es : List MapEntry} {cl : Nat} (hk : h.get b = some (.map es cl))
    {es' : List MapEntry} {mes' : Array MapEntry} {cl' : Nat} (hr : ER ρ es' mes'.toList) :
    St P ρ (C.set b (.map es' cl')) { w with heap := w.heap.setIfInBounds e.mb (.map mes' cl') } ∧
    Stp h (h.upd b (.map es' cl')) ρ C w ρ (C.set b (.map es' cl')) { w with heap := w.heap.setIfInBounds e.mb (.map mes' cl') } := by
  refine upd_step hs he (hg.trans hk) hk trivial hbn (w' := { w with heap := w.heap.setIfInBounds e.mb (.map mes' cl') }) ?_ ?_ ⟨rfl, rfl, rfl⟩ _ trivial ?_
  · intro m hm; exact Array.getElem?_setIfInBounds_ne (Ne.symm hm)
  · show (w.heap.setIfInBounds _ _).size = _; simp
  · refine ⟨mes', ?_, hr⟩
    show (w.heap.setIfInBounds _ _)[e.mb]? = _
    rw [Array.getElem?_setIfInBounds_self_of_lt (hs.bound _ _ he)]
/-- A map's entries in both, and what is found. -/
theorem mapUpd_run {ρ : Rho} {C : Con} {w : World} {h h' : DH} (hs : St P ρ C w) {m m' k k' v v' : Value} (hm : VR ρ m m') (hk : VR ρ k k') (hv : VR ρ v v') (hg : Tc ρ C h m) {t : TypeId}
    (hd : dmapUpdate P h t m k v = some h') :
    ∃ C' w', (Instr.mapUpdate t m' k' v').run P w = .ok () w' ∧ St P ρ C' w' ∧ Stp h h' ρ C w ρ C' w' ∧ h'.n = h.n := by
  unfold dmapUpdate at hd
  obtain ⟨mt, h1, hd⟩ := ob_eq_some.1 hd
  obtain ⟨b, h2, hd⟩ := ob_eq_some.1 hd
  obtain ⟨en, h3, hd⟩ := ob_eq_some.1 hd
  obtain ⟨r, h4, hd⟩ := ob_eq_some.1 hd
  rw [guard'_eq_some] at hd
  obtain ⟨h5, hd⟩ := hd
  have ht := tmap_eq h1
  have := asMapB_eq h2
  subst this
  obtain ⟨e, he, rfl⟩ := hm.map_inv
  obtain ⟨hbn, hC⟩ := hg b (by simp [blockOf]) (by rw [he]; simp) (by rw [ents_eq h3]; simp)
  have hget := ents_eq h3
  obtain ⟨kb, hkb, hbr⟩ := hs.has _ _ he
  rw [hC, hget] at hkb
  injection hkb with hkb
  subst hkb
  obtain ⟨mes, q1, q2⟩ := hbr
  obtain ⟨rfl, hf, h6, h7⟩ := dfind_run q2 hk h4
  rcases h7 with ⟨rfl, h7⟩ | ⟨i, x, rfl, h7, h8⟩
  · have hd : some (dadd h b en k' v) = some h' := hd
    injection hd with hd
    subst hd
    obtain ⟨s1, s2⟩ := set_step hs he hbn hC hget (cl' := en.clock + 1) (q2.push (x := ⟨k', v, en.clock⟩) (y := ⟨k', v', en.clock⟩) ⟨⟨hf, rfl⟩, hv, rfl⟩)
    refine ⟨_, _, ?_, s1, s2, rfl⟩
    simp only [Instr.mapUpdate, Sem.run_bind, run_underlying' ht, Result.andThen_ok, MapKept.run_getObj_map q1, h6, h7, MapKept.run_setObj_map _ q1]
  · have hd : (ob (dkeep P h b en k' (fun _ => v) i) fun x => some x.2.2) = some h' := hd
    obtain ⟨u, g1, g2⟩ := ob_eq_some.1 hd
    unfold dkeep at g1
    obtain ⟨y, g3, g1⟩ := ob_eq_some.1 g1
    obtain ⟨ky, g4, g1⟩ := ob_eq_some.1 g1
    simp only [Option.some.injEq] at g1 g2
    subst g1; subst g2
    rw [lget_eq] at g3
    obtain ⟨x', y1, y2, y3, y4⟩ := q2.get g3
    rw [h7] at y1
    injection y1 with y1
    subst y1
    rw [← y2.2] at g4
    obtain ⟨rfl, g5⟩ := keyStays g4
    obtain ⟨s1, s2⟩ := set_step hs he hbn hC hget (cl' := en.clock) (q2.set (x := ⟨ky, v, y.born⟩) (f := fun e => { e with key := ky, val := v' }) (by simpa using h7) ⟨⟨hf, rfl⟩, hv, y4⟩)
    have hx : mes[i]? = some x := by simpa using h7
    refine ⟨_, _, ?_, s1, s2, rfl⟩
    simp only [Instr.mapUpdate, Sem.run_bind, run_underlying' ht, Result.andThen_ok, MapKept.run_getObj_map q1, h6, h8, hx, Option.map_some, Option.getD_some, g5, MapKept.run_setObj_map _ q1]
theorem stamp_run {ρ : Rho} {v v' : Value} (hv : VR ρ v v') (n : Nat) : VR ρ (stampOf v n) (.tuple #[v', goInt n]) :=
  .tup' (.cons hv (.cons (.flat _ rfl) (.nil ρ)))
theorem mapEntry_run {ρ : Rho} {C : Con} {w : World} {h h' : DH} (hs : St P ρ C w) {m m' k k' v : Value} (hm : VR ρ m m') (hk : VR ρ k k') (hg : Tc ρ C h m) {t : TypeId}
    (hd : dmapEntry P h t m k = some (v, h')) :
    ∃ C' w' v', (Instr.mapEntry t m' k').run P w = .ok v' w' ∧ St P ρ C' w' ∧ Stp h h' ρ C w ρ C' w' ∧ VR ρ v v' ∧ h'.n = h.n := by
  unfold dmapEntry at hd
  obtain ⟨mt, h1, hd⟩ := ob_eq_some.1 hd
  obtain ⟨b, h2, hd⟩ := ob_eq_some.1 hd
  obtain ⟨en, h3, hd⟩ := ob_eq_some.1 hd
  obtain ⟨r, h4, hd⟩ := ob_eq_some.1 hd
  have ht := tmap_eq h1
  have := asMapB_eq h2
  subst this
  obtain ⟨e, he, rfl⟩ := hm.map_inv
  obtain ⟨hbn, hC⟩ := hg b (by simp [blockOf]) (by rw [he]; simp) (by rw [ents_eq h3]; simp)
  have hget := ents_eq h3
  obtain ⟨kb, hkb, hbr⟩ := hs.has _ _ he
  rw [hC, hget] at hkb
  injection hkb with hkb
  subst hkb
  obtain ⟨mes, q1, q2⟩ := hbr
  obtain ⟨rfl, hf, h6, h7⟩ := dfind_run q2 hk h4
  rcases h7 with ⟨rfl, h7⟩ | ⟨i, x, rfl, h7, h8⟩
  · have hd : (ob (tzero P mt.e) fun z => guard' (isFlat z) (some (stampOf z en.clock, dadd h b en k' z))) = some (v, h') := hd
    obtain ⟨z, g1, hd⟩ := ob_eq_some.1 hd
    rw [guard'_eq_some] at hd
    obtain ⟨g2, hd⟩ := hd
    simp only [Option.some.injEq, Prod.mk.injEq] at hd
    obtain ⟨rfl, rfl⟩ := hd
    obtain ⟨s1, s2⟩ := set_step hs he hbn hC hget (cl' := en.clock + 1) (q2.push (x := ⟨k', z, en.clock⟩) (y := ⟨k', z, en.clock⟩) ⟨⟨hf, rfl⟩, VR.of_flat g2, rfl⟩)
    refine ⟨_, _, _, ?_, s1, s2, stamp_run (VR.of_flat g2) _, rfl⟩
    simp only [Instr.mapEntry, Sem.run_bind, run_underlying' ht, Result.andThen_ok, MapKept.run_getObj_map q1, h6, h7, MapKept.run_setObj_map _ q1, tzero_run g1, Sem.run_pure]
  · have hd : (ob (dkeep P h b en k' (fun x => x) i) fun x => some (stampOf x.1 x.2.1, x.2.2)) = some (v, h') := hd
    obtain ⟨u, g1, g2⟩ := ob_eq_some.1 hd
    unfold dkeep at g1
    obtain ⟨y, g3, g1⟩ := ob_eq_some.1 g1
    obtain ⟨ky, g4, g1⟩ := ob_eq_some.1 g1
    simp only [Option.some.injEq, Prod.mk.injEq] at g1 g2
    subst g1
    obtain ⟨rfl, rfl⟩ := g2
    rw [lget_eq] at g3
    obtain ⟨x', y1, y2, y3, y4⟩ := q2.get g3
    rw [h7] at y1
    injection y1 with y1
    subst y1
    rw [← y2.2] at g4
    obtain ⟨rfl, g5⟩ := keyStays g4
    obtain ⟨s1, s2⟩ := set_step hs he hbn hC hget (cl' := en.clock) (q2.set (i := i) (y := x) (x := ⟨ky, y.val, y.born⟩) (f := fun e => { e with key := ky }) (by simpa using h7) ⟨⟨hf, rfl⟩, y3, y4⟩)
    have hx : mes[i]? = some x := by simpa using h7
    refine ⟨_, _, .tuple #[x.val, goInt x.born], ?_, s1, s2, by rw [y4]; exact stamp_run y3 _, rfl⟩
    simp only [Instr.mapEntry, Sem.run_bind, run_underlying' ht, Result.andThen_ok, MapKept.run_getObj_map q1, h6, h8, hx, Option.map_some, Option.getD_some, g5, MapKept.run_setObj_map _ q1, Sem.run_pure]
theorem bornAt_eq (es : List MapEntry) (s : Nat) {i : Nat} {x : MapEntry} : ∀ {n : Nat}, @List.rec MapEntry (fun _ => Nat → Option (Nat × MapEntry)) (fun _ => none) (fun e _ g i => sel (Nat.beq e.born s) (some (i, e)) (g (Nat.succ i))) es n = some (i, x) →
    n ≤ i ∧ es[i - n]? = some x ∧ x.born = s ∧ ∀ j y, j < i - n → es[j]? = some y → y.born ≠ s := by
  induction es with
  | nil => intro n h; cases h
  | cons e es ih =>
    intro n h
    have h : sel (Nat.beq e.born s) (some (n, e)) _ = some (i, x) := h
    cases hb : Nat.beq e.born s with
    | true =>
      rw [hb] at h
      simp only [sel_true, Option.some.injEq, Prod.mk.injEq] at h
      obtain ⟨rfl, rfl⟩ := h
      exact ⟨Nat.le_refl _, by simp, beq_eq hb, fun j y hj => by omega⟩
    | false =>
      rw [hb] at h
      obtain ⟨g1, g2, g3, g4⟩ := ih (n := n + 1) h
      refine ⟨by omega, ?_, g3, fun j y hj hy => ?_⟩
      · rw [show i - n = (i - (n + 1)) + 1 by omega]; exact g2
      · cases j with
        | zero =>
          simp at hy; subst hy
          intro hs; rw [hs, show Nat.beq s s = true from Nat.beq_refl s] at hb; cases hb
        | succ j => exact g4 j y (by omega) hy
theorem entryStore_run {ρ : Rho} {C : Con} {w : World} {h h' : DH} (hs : St P ρ C w) {m m' s s' v v' : Value} (hm : VR ρ m m') (hk : VR ρ s s') (hv : VR ρ v v') (hg : Tc ρ C h m) {t : TypeId}
    (hd : dentryStore h m s v = some h') :
    ∃ C' w', (Instr.entryStore t m' s' v').run P w = .ok () w' ∧ St P ρ C' w' ∧ Stp h h' ρ C w ρ C' w' ∧ h'.n = h.n := by
  unfold dentryStore at hd
  obtain ⟨b, h2, hd⟩ := ob_eq_some.1 hd
  obtain ⟨st, h3, hd⟩ := ob_eq_some.1 hd
  obtain ⟨en, h4, hd⟩ := ob_eq_some.1 hd
  obtain ⟨⟨i, x⟩, h5, hd⟩ := ob_eq_some.1 hd
  rw [guard'_eq_some] at hd
  obtain ⟨h6, hd⟩ := hd
  simp only [Option.some.injEq] at hd
  subst hd
  have := asMapB_eq h2
  subst this
  obtain ⟨e, he, rfl⟩ := hm.map_inv
  obtain ⟨hbn, hC⟩ := hg b (by simp [blockOf]) (by rw [he]; simp) (by rw [ents_eq h4]; simp)
  have hget := ents_eq h4
  obtain ⟨kb, hkb, hbr⟩ := hs.has _ _ he
  rw [hC, hget] at hkb
  injection hkb with hkb
  subst hkb
  obtain ⟨mes, q1, q2⟩ := hbr
  obtain ⟨kk, hkk⟩ := natOf_eq h3
  subst hkk
  have := hk.int_inv
  subst this
  obtain ⟨_, g2, g3, g4⟩ := bornAt_eq en.es st h5
  simp only [Nat.sub_zero] at g2 g4
  obtain ⟨x', y1, y2, y3, y4⟩ := q2.get g2
  have hx : mes[i]? = some x' := by simpa using y1
  have hfi : mes.findIdx? (fun e => (e.born : Int) == (st : Int)) = some i := by
    rw [Array.findIdx?_eq_some_iff_getElem]
    have hi : i < mes.size := (Array.getElem?_eq_some_iff.1 hx).1
    refine ⟨hi, ?_, ?_⟩
    · have : mes[i] = x' := (Array.getElem?_eq_some_iff.1 hx).2
      rw [this]; simp; omega
    · intro j hj
      have hj2 : j < mes.size := by omega
      have hj3 : j < en.es.length := by have := q2.1; simp at this; omega
      have h7 := g4 j en.es[j] hj (List.getElem?_eq_getElem hj3)
      have h8 := (q2.2 j en.es[j] mes[j] (List.getElem?_eq_getElem hj3) (by simp)).2.2
      simp; omega
  obtain ⟨s1, s2⟩ := set_step hs he hbn hC hget (cl' := en.clock) (q2.set (x := ⟨x.key, v, x.born⟩) (f := fun e => { e with val := v' }) hx ⟨⟨y2.1, y2.2⟩, hv, y4⟩)
  refine ⟨_, _, ?_, s1, s2, rfl⟩
  simp only [Instr.entryStore, Sem.run_bind, MapKept.run_getObj_map q1, Result.andThen_ok, asInt, asIntOf, Sem.run_pure, hfi, MapKept.run_setObj_map _ q1]
end Go.Det
/- The rest of the operations. -/
set_option linter.unusedVariables false
set_option linter.unusedSimpArgs false
namespace Go.Det
variable {P : Program}

theorem lmapM_eq {α β : Type} (f : α → Option β) : ∀ (l : List α) (r : List β), lmapM f l = some r → r.length = l.length ∧ ∀ (i : Nat) (x : α), l[i]? = some x → ∃ y, f x = some y ∧ r[i]? = some y := by
  intro l
  induction l with
  | nil =>
    intro r h
    have h : some [] = some r := h
    injection h with h
    subst h
    exact ⟨rfl, fun i x h => by simp at h⟩
  | cons a l ih =>
    intro r h
    have h : (ob (f a) fun b => ob (lmapM f l) fun bs => some (b :: bs)) = some r := h
    obtain ⟨b, h1, h2⟩ := ob_eq_some.1 h
    obtain ⟨bs, h3, h4⟩ := ob_eq_some.1 h2
    simp only [Option.some.injEq] at h4
    subst h4
    obtain ⟨g1, g2⟩ := ih bs h3
    refine ⟨by simp [g1], fun i x hx => ?_⟩
    cases i with
    | zero => simp at hx; subst hx; exact ⟨b, h1, rfl⟩
    | succ i => simp at hx; obtain ⟨y, y1, y2⟩ := g2 i x hx; exact ⟨y, y1, by simpa using y2⟩
def numOf : Value → Int
  | .int _ n => n
  | _ => 0
theorem tu8_eq {t : TypeId} (h : tu8 P t = true) : P.underlying t = some (.int .u8) := by
  unfold tu8 at h
  cases hu : P.underlying t with
  | none => rw [hu] at h; cases h
  | some d =>
    rw [hu] at h
    cases d <;> first | (rename_i k; cases k <;> first | rfl | (cases h; done)) | (cases h; done)
theorem sim_convBytes {ρ : Rho} {C : Con} {w : World} {h : DH} (hs : St P ρ C w) {x x' : Value} (hx : VR ρ x x') (hg : Tc ρ C h x) {src dst : TypeId} {v : Value}
    (hd : dconvBytes P h src dst x = some v) : PV P ρ w (convert src dst x') v := by
  unfold dconvBytes at hd
  obtain ⟨e, h1, hd1⟩ := ob_eq_some.1 hd
  rw [guard'_eq_some] at hd1
  obtain ⟨h2, hd2⟩ := hd1
  obtain ⟨h2, h3⟩ := sel_and h2
  obtain ⟨s, h4, hd3⟩ := ob_eq_some.1 hd2
  obtain ⟨p, h5, hd4⟩ := ob_eq_some.1 hd3
  obtain ⟨ad, h6, h7⟩ := ob_eq_some.1 h5
  obtain ⟨r, h8, hd5⟩ := ob_eq_some.1 hd4
  obtain ⟨l, h9, hd6⟩ := ob_eq_some.1 hd5
  obtain ⟨bs, h10, hd7⟩ := ob_eq_some.1 hd6
  simp only [Option.some.injEq] at hd7
  subst hd7
  have hx1 := asSl_eq h4
  rw [h6, plOf_eq h7] at hx1
  rw [hx1] at hx hg
  obtain ⟨im, o', c', him, hsl, rfl⟩ := hx.sl_inv
  obtain ⟨k, hk, hb⟩ := hs.has _ _ him
  rw [(hg p.b (by simp [blockOf]) (by rw [him]; simp) (by rw [row_eq h8]; simp)).2, row_eq h8] at hk
  injection hk with hk
  subst hk
  obtain ⟨l', g1, g2⟩ := cells_of hb h9
  obtain ⟨q1, q2⟩ := lmapM_eq byteOf' l bs h10
  have hll := (cut_eq h9).2
  have hbyte : ∀ (i : Nat) (v : Value), l[i]? = some v → v = .int .u8 (numOf v) ∧ bs[i]? = some (UInt8.ofNat (numOf v).toNat) := by
    intro i v hv
    obtain ⟨y, y1, y2⟩ := q2 i v hv
    unfold byteOf' at y1
    obtain ⟨ki, y3, y4⟩ := ob_eq_some.1 y1
    rw [guard'_eq_some] at y4
    obtain ⟨y5, y6⟩ := y4
    simp only [Option.some.injEq] at y6
    have y7 := asKI_eq y3
    rw [sameKind_eq y5] at y7
    rw [y7]
    refine ⟨rfl, ?_⟩
    rw [y2, ← y6]; rfl
  have hstr : strOfNums (l.map numOf) = ⟨⟨bs⟩⟩ := by
    have h1 : (strOfNums (l.map numOf)).data.toList = bs := by
      rw [strOfNums_data, List.map_map]
      apply List.ext_getElem?
      intro i
      rw [List.getElem?_map]
      cases hli : l[i]? with
      | none =>
        have : bs[i]? = none := by rw [List.getElem?_eq_none_iff] at hli ⊢; omega
        rw [this]; rfl
      | some v => rw [(hbyte i v hli).2]; rfl
    have h2 : (strOfNums (l.map numOf)).data = ⟨bs⟩ := by rw [← h1]
    show (⟨(strOfNums (l.map numOf)).data⟩ : ByteArray) = _
    rw [h2]
  refine ⟨_, ?_, .flat _ rfl⟩
  have := run_convert_bytes_arg (P := P) w src e (telem_eq h1) (tu8_eq h2) im.mb o' s.len c' (l.map numOf) (by simpa using hll) (fun i hi => by
    have hi' : i < l.length := by omega
    have ho : o' = im.base + p.o := by
      rcases hsl.1 with g | ⟨_, g⟩
      · exact g
      · omega
    obtain ⟨v', y1, y2⟩ := g1.get (List.getElem?_eq_getElem hi')
    have y3 := (hbyte i _ (List.getElem?_eq_getElem hi')).1
    rw [y3] at y2
    have := y2.int_inv
    subst this
    rw [ho, g2 i _ y1]
    simp [hi']) dst (tstr_eq h3)
  rw [hstr] at this
  exact this
theorem sim_convert {ρ : Rho} {C : Con} {w : World} {h : DH} (hs : St P ρ C w) {x x' : Value} (hx : VR ρ x x') (hg : Tc ρ C h x) {src dst : TypeId} {v : Value}
    (hd : dconvert P h src dst x = some v) : PV P ρ w (convert src dst x') v := by
  unfold dconvert at hd
  cases hf : isFlat x with
  | true =>
    rw [hf, sel_true] at hd
    rw [hx.flat_eq hf]
    exact pureFlat_run hd ρ w
  | false =>
    rw [hf, sel_false] at hd
    exact sim_convBytes hs hx hg hd

theorem sim_slice3 {ρ : Rho} {C : Con} {w : World} {h : DH} (hs : St P ρ C w) {a : DA} {act : Act} (ha : AR ρ a act) {x : Operand} (hg : Tc ρ C h (dev a x))
    {lo hi mx : Option Operand} {t : TypeId} {v : Value} (hd : dslice3 P h t (dev a x) (oev a lo) (oev a hi) (oev a mx) = some v) :
    PV P ρ w (Instr.sliceAt t (act.eval x) (lo.map act.eval) (hi.map act.eval) (mx.map act.eval)) v := by
  have hx := ha.ev x
  unfold dslice3 at hd
  obtain ⟨e, h1, hd1⟩ := ob_eq_some.1 hd
  obtain ⟨sz, h2, hd2⟩ := ob_eq_some.1 hd1
  obtain ⟨s, h3, hd3⟩ := ob_eq_some.1 hd2
  obtain ⟨m, h4, hd4⟩ := ob_eq_some.1 hd3
  rw [guard'_eq_some] at hd4
  obtain ⟨h5, hd5⟩ := hd4
  obtain ⟨hh, h6, hd6⟩ := ob_eq_some.1 hd5
  obtain ⟨l, h7, hd7⟩ := ob_eq_some.1 hd6
  rw [guard'_eq_some] at hd7
  obtain ⟨h8, hd8⟩ := hd7
  obtain ⟨h8, h9⟩ := sel_and h8
  have h5 := ble_eq h5
  have h8 := ble_eq h8
  have h9 := ble_eq h9
  have hs1 := asSl_eq h3
  rw [hs1] at hx hg
  cases mx with
  | none => cases h4
  | some mx =>
  cases hi with
  | none => cases h6
  | some hi =>
  have bnd : ∀ {o : Operand} {n y : Nat} {code : BoundsCode}, natOf (dev a o) = some n → n ≤ y → (Instr.sliceBound (act.eval o) y code).run P w = .ok n w := by
    intro o n y code ho hy
    obtain ⟨k, hk⟩ := natOf_eq ho
    have he := ha.ev o
    rw [hk] at he
    have := he.int_inv
    simp only [this, Instr.sliceBound, asIntOf, Sem.run_bind, Sem.run_pure, Result.andThen_ok]
    rw [if_pos (by omega)]
    simp
  have hb : ∀ {cap}, m ≤ cap → (Instr.sliceBounds true s.len cap (lo.map act.eval) (some (act.eval hi)) (some (act.eval mx))).run P w = .ok (l, hh, m) w := by
    intro cap hc
    have e1 := bnd (o := mx) (code := .slice3Acap) h4 hc
    have e2 := bnd (o := hi) (code := .slice3B) h6 h9
    cases lo with
    | none =>
      have : (0 : Nat) = l := by simpa [oev, obnd] using h7
      subst this
      simp [Instr.sliceBounds, Sem.run_bind, e1, e2]
    | some lo =>
      have e3 := bnd (o := lo) (code := .slice3C) h7 h8
      simp [Instr.sliceBounds, Sem.run_bind, e1, e2, e3]
  rcases sl_part hs h2 hx hg (l := l) (n := hh - l) (m := m) (by omega) (by omega) h5 hd8 with ⟨e1, e2, e3, e4, e5, e6⟩ | ⟨p, im, o', c', e1, e2, e3, e4, e5⟩
  · have hm : m = 0 := by omega
    have hh0 : hh = 0 := by omega
    have hb := hb (cap := 0) (by omega)
    refine ⟨.slice none 0 0, ?_, by rw [e5]; exact .flat _ rfl⟩
    rw [e2, e6, hm, hh0] at hb
    simp [Instr.sliceAt, Instr.slice, Sem.run_bind, run_underlying' (telem_eq h1), e4, hb, tsize_run h2]
  · have hb := hb (cap := c') (by omega)
    refine ⟨_, ?_, e5 m (Nat.le_refl _) (by omega) (fun _ => rfl)⟩
    simp only [Option.map_some, Instr.sliceAt, Instr.slice, Sem.run_bind, run_underlying' (telem_eq h1), Result.andThen_ok, e3, hb, tsize_run h2, Sem.run_pure]
    split <;> rfl

theorem sim_len {ρ : Rho} {C : Con} {w : World} {h : DH} (hs : St P ρ C w) {x x' : Value} (hx : VR ρ x x') (hg : Tc ρ C h x) {t : TypeId} {v : Value} (hd : dlen P h t x = some v)
    {ts : Array TypeId} {args : Array Value} (h0 : ts[0]? = some t) (h1 : args[0]? = some x') (ty : TypeId) : PV P ρ w (Builtin.len_ ts ty args) v := by
  unfold dlen at hd
  obtain ⟨d, h2, hd1⟩ := ob_eq_some.1 hd
  obtain ⟨n, h3, hd2⟩ := ob_eq_some.1 hd1
  simp only [Option.some.injEq] at hd2
  subst hd2
  refine ⟨.int .i64 (Int.ofNat n), ?_, .flat _ rfl⟩
  cases d with
  | string =>
    obtain ⟨s, g1, g2⟩ := ob_eq_some.1 (h3 : (ob (asStr x) fun s => some s.size) = some n)
    have := asStr_eq g1
    subst this
    have := hx.str_inv
    subst this
    simp only [Option.some.injEq] at g2
    subst g2
    simp only [Builtin.len_, h0, h1, Sem.run_bind, run_underlying' h2, Result.andThen_ok, Sem.run_pure]
    rfl
  | slice e =>
    obtain ⟨s, g1, g2⟩ := ob_eq_some.1 (h3 : (ob (asSl x) fun s => some s.len) = some n)
    have hx1 := asSl_eq g1
    rw [hx1] at hx
    simp only [Option.some.injEq] at g2
    subst g2
    have : ∃ base c', x' = .slice base s.len c' := by
      generalize s.p = sp at hx
      cases hx with
      | flat _ hf => exact ⟨_, _, rfl⟩
      | sl b o l c e o' c' hb hsl => exact ⟨_, _, rfl⟩
    obtain ⟨base, c', rfl⟩ := this
    simp only [Builtin.len_, h0, h1, Sem.run_bind, run_underlying' h2, Result.andThen_ok, Sem.run_pure]
    rfl
  | array m e =>
    have h3 : some m = some n := h3
    injection h3 with h3
    subst h3
    simp only [Builtin.len_, h0, h1, Sem.run_bind, run_underlying' h2, Result.andThen_ok, Sem.run_pure]
    rfl
  | map k e =>
    have h3 : sel (isNilMap x) (some 0) (ob (asMapB x) fun b => ob (h.ents b) fun en => some (llen en.es)) = some n := h3
    cases hn : isNilMap x with
    | true =>
      rw [hn, sel_true] at h3
      injection h3 with h3
      subst h3
      have hmn : x = .map none := by
        cases x with
        | map r => cases r with
          | none => rfl
          | some b => cases hn
        | _ => cases hn
      subst hmn
      have := hx.flat1_eq rfl
      subst this
      simp only [Builtin.len_, h0, h1, Sem.run_bind, run_underlying' h2, Result.andThen_ok, Sem.run_pure]
      rfl
    | false =>
      rw [hn, sel_false] at h3
      obtain ⟨b, g1, g2⟩ := ob_eq_some.1 h3
      obtain ⟨en, g3, g4⟩ := ob_eq_some.1 g2
      simp only [Option.some.injEq] at g4
      have := asMapB_eq g1
      subst this
      obtain ⟨e, he, rfl⟩ := hx.map_inv
      obtain ⟨kb, hkb, hbr⟩ := hs.has _ _ he
      rw [(hg b (by simp [blockOf]) (by rw [he]; simp) (by rw [ents_eq g3]; simp)).2, ents_eq g3] at hkb
      injection hkb with hkb
      subst hkb
      obtain ⟨mes, q1, q2⟩ := hbr
      have : mes.size = n := by have := q2.1; rw [llen_eq] at g4; simp at this; omega
      simp only [Builtin.len_, h0, h1, Sem.run_bind, run_underlying' h2, Result.andThen_ok, MapKept.run_getObj_map q1, Sem.run_pure, this]
      rfl
  | _ => cases h3
theorem sim_cap {ρ : Rho} {C : Con} {w : World} {h : DH} (hs : St P ρ C w) {x x' : Value} (hx : VR ρ x x') (hg : Tc ρ C h x) {t : TypeId} {v : Value} (hd : dcap P h t x = some v)
    {ts : Array TypeId} {args : Array Value} (h0 : ts[0]? = some t) (h1 : args[0]? = some x') (ty : TypeId) : PV P ρ w (Builtin.cap_ ts ty args) v := by
  unfold dcap at hd
  rw [guard'_eq_some] at hd
  obtain ⟨h2, hd1⟩ := hd
  obtain ⟨e, h2⟩ := tslice_eq h2
  cases hn : isNilSl x with
  | true =>
    rw [hn, sel_true] at hd1
    simp only [Option.some.injEq] at hd1
    subst hd1
    rw [nil_sl hn] at hx
    have := hx.flat1_eq rfl
    subst this
    refine ⟨_, ?_, .flat _ rfl⟩
    simp only [Builtin.cap_, h0, h1, Sem.run_bind, run_underlying' h2, Result.andThen_ok, Sem.run_pure]
    rfl
  | false =>
    rw [hn, sel_false] at hd1
    obtain ⟨s, h3, hd2⟩ := ob_eq_some.1 hd1
    obtain ⟨p, h5, hd4⟩ := ob_eq_some.1 hd2
    obtain ⟨ad, h6, h7⟩ := ob_eq_some.1 h5
    obtain ⟨r, h8, hd5⟩ := ob_eq_some.1 hd4
    rw [guard'_eq_some] at hd5
    obtain ⟨h9, hd6⟩ := hd5
    simp only [Option.some.injEq] at hd6
    subst hd6
    have hx1 := asSl_eq h3
    rw [h6, plOf_eq h7] at hx1
    rw [hx1] at hx hg
    obtain ⟨im, o', c', him, hsl, rfl⟩ := hx.sl_inv
    obtain ⟨k, hk, hb⟩ := hs.has _ _ him
    rw [(hg p.b (by simp [blockOf]) (by rw [him]; simp) (by rw [row_eq h8]; simp)).2, row_eq h8] at hk
    injection hk with hk
    subst hk
    obtain ⟨c, te, md⟩ := r
    have hmd : md = .exact := by cases md <;> first | rfl | cases h9
    subst hmd
    obtain ⟨mc, q1, q2, q3, q4, q5⟩ := hb
    have : c' = s.cap := by
      rcases hsl.2 with ⟨_, g⟩ | ⟨g, _⟩
      · exact g
      · rw [q2] at g; cases g
    subst this
    refine ⟨_, ?_, .flat _ rfl⟩
    simp only [Builtin.cap_, h0, h1, Sem.run_bind, run_underlying' h2, Result.andThen_ok, Sem.run_pure]
    rfl
theorem LR.isFlat_eq {ρ : Rho} {x x' : List Value} (h : LR ρ x x') (hf : x.all isFlat = true) : x' = x := by
  induction x generalizing x' with
  | nil => exact h.nil'
  | cons a l ih =>
    obtain ⟨a', r', rfl, h1, h2⟩ := h.uncons
    simp only [List.all_cons, Bool.and_eq_true] at hf
    rw [h1.flat_eq hf.1, ih h2 hf.2]
theorem sim_max {ρ : Rho} {w : World} {x x' : List Value} (hx : LR ρ x x') (hf : lall isFlat x = true) {v : Value} {ts : Array TypeId} (hd : pureFlat P (Builtin.max_ ts 0 ⟨x⟩) = some v) (ty : TypeId) : PV P ρ w (Builtin.max_ ts ty ⟨x'⟩) v := by
  rw [lall_eq] at hf
  rw [hx.isFlat_eq hf]
  exact pureFlat_run hd ρ w
theorem sim_min {ρ : Rho} {w : World} {x x' : List Value} (hx : LR ρ x x') (hf : lall isFlat x = true) {v : Value} {ts : Array TypeId} (hd : pureFlat P (Builtin.min_ ts 0 ⟨x⟩) = some v) (ty : TypeId) : PV P ρ w (Builtin.min_ ts ty ⟨x'⟩) v := by
  rw [lall_eq] at hf
  rw [hx.isFlat_eq hf]
  exact pureFlat_run hd ρ w
theorem new_map {ρ : Rho} {C : Con} {w : World} {h : DH} (hs : St P ρ C w) (hdom : Dom ρ h) :
    St P (ρ.set h.n ⟨w.heap.size, 0, true, 0, 0⟩) (C.set h.n (.map [] 0)) { w with heap := w.heap.push (.map #[] 0) } ∧
    Stp h (h.push (.map [] 0)) ρ C w (ρ.set h.n ⟨w.heap.size, 0, true, 0, 0⟩) (C.set h.n (.map [] 0)) { w with heap := w.heap.push (.map #[] 0) } := by
  refine push_step (w' := { w with heap := w.heap.push (.map #[] 0) }) hs hdom ?_ ?_ ⟨rfl, rfl, rfl⟩ ⟨w.heap.size, 0, true, 0, 0⟩ rfl (.map [] 0) trivial ?_
  · intro m hm; show (w.heap.push _)[m]? = _; rw [Array.getElem?_push]; simp [Nat.ne_of_lt hm]
  · show (w.heap.push _).size = _; simp
  · exact ⟨#[], by show (w.heap.push _)[w.heap.size]? = _; simp, rfl, fun i x x' h => by simp at h⟩
end Go.Det
/- Each operation of the reading is the model's. -/
set_option linter.unusedVariables false
set_option linter.unusedSimpArgs false
namespace Go.Det
variable {P : Program}

def DN.heap : DN → DH
  | .val _ h => h
  | .skip h => h
  | .enter _ _ h => h
/-- The blocks that an operation looks at or turns. -/
def Foot.has (f : Foot) (b : Nat) : Prop := (match f.rd with | none => True | some l => b ∈ l) ∨ (match f.wr with | .none => False | .one c => b = c | .ge n => n ≤ b | .set S => S b)
def Wf (h : DH) : Prop := ∀ b, h.n ≤ b → h.get b = none

theorem valH_eq {h : DH} {v : Option Value} {r : DN} (hd : valH h v = some r) : ∃ u, v = some u ∧ r = .val u h := by
  unfold valH at hd
  obtain ⟨u, h1, h2⟩ := ob_eq_some.1 hd
  simp only [Option.some.injEq] at h2
  exact ⟨u, h1, h2.symm⟩
theorem val2_eq {v : Option (Value × DH)} {r : DN} (hd : val2 v = some r) : ∃ u h, v = some (u, h) ∧ r = .val u h := by
  unfold val2 at hd
  obtain ⟨u, h1, h2⟩ := ob_eq_some.1 hd
  simp only [Option.some.injEq] at h2
  exact ⟨u.1, u.2, h1, h2.symm⟩
theorem skipH_eq {v : Option DH} {r : DN} (hd : skipH v = some r) : ∃ h, v = some h ∧ r = .skip h := by
  unfold skipH at hd
  obtain ⟨u, h1, h2⟩ := ob_eq_some.1 hd
  simp only [Option.some.injEq] at h2
  exact ⟨u, h1, h2.symm⟩

/-- What it is that the model does as the reading does. -/
def OpOk (P : Program) (act : Act) (o : Oper) (h : DH) (ρ : Rho) (C : Con) (w : World) : DN → Prop
  | .val v h' => OkV P act o h h' ρ C w v
  | .skip h' => OkS P act o h h' ρ C w
  | .enter f args h' => h' = h ∧ ∃ args' : Array Value, (∀ fn c, P.funcs[f]? = some fn → fn.body = some c → (fn.name == "runtime.NumGoroutine") = false → (execOp act.eval o).run P w = .ok (.enter f args') w) ∧ LR ρ args args'.toList

theorem OkV.look {act : Act} {o : Oper} {h : DH} {ρ : Rho} {C : Con} {w : World} {v : Value} {s : Sem Value} (hs : St P ρ C w) (hv : PV P ρ w s v) (he : execOp act.eval o = ((do Pure.pure (Next.value (← s))) : Sem Next)) : OkV P act o h h ρ C w v := by
  obtain ⟨v', h1, h2⟩ := hv
  refine OkV.pure hs ?_ h2
  rw [he]; exact run_v h1
theorem OkV.make {act : Act} {o : Oper} {h h' : DH} {ρ ρ' : Rho} {C C' : Con} {w w' : World} {v v' : Value} {s : Sem Value} (h1 : s.run P w = .ok v' w') (h2 : St P ρ' C' w') (h3 : Stp h h' ρ C w ρ' C' w') (h4 : VR ρ' v v')
    (he : execOp act.eval o = ((do Pure.pure (Next.value (← s))) : Sem Next)) : OkV P act o h h' ρ C w v := ⟨ρ', C', w', v', by rw [he]; exact run_v h1, h2, h3, h4⟩
theorem OkS.make {act : Act} {o : Oper} {h h' : DH} {ρ ρ' : Rho} {C C' : Con} {w w' : World} {s : Sem Unit} (h1 : s.run P w = .ok () w') (h2 : St P ρ' C' w') (h3 : Stp h h' ρ C w ρ' C' w')
    (he : execOp act.eval o = ((do s; Pure.pure Next.skip) : Sem Next)) : OkS P act o h h' ρ C w := ⟨ρ', C', w', by rw [he]; exact run_u h1, h2, h3⟩
theorem dom_of {ρ : Rho} {h : DH} {n' : Nat} (hf : Free ρ h.n n') (hn : n' = h.n + 1) : Dom ρ h := fun b e hb => by
  rcases Nat.lt_trichotomy b h.n with hl | he | hg
  · exact .inl hl
  · subst he; rw [hf _ (Nat.le_refl _) (by omega)] at hb; cases hb
  · exact .inr hg

theorem wrOf_wr {rd : List Nat} {l : List Nat} : ∀ b, b ∈ l → (wrOf l rd).has b := by
  intro b hb
  cases l with
  | nil => cases hb
  | cons a l => cases l with
    | nil => simp at hb; subst hb; exact .inr rfl
    | cons c l => exact .inl trivial
theorem wrOf_rd {rd : List Nat} {l : List Nat} : ∀ b, b ∈ rd → (wrOf l rd).has b := by
  intro b hb
  cases l with
  | nil => exact .inl hb
  | cons a l => cases l with
    | nil => exact .inl hb
    | cons c l => exact .inl trivial
def foot1 (args : List Value) : Foot := match args with
  | [x] => ⟨some (blockOf x), .none⟩
  | _ => ⟨none, .none⟩
def foot2 (args : List Value) : Foot := match args with
  | [s, x] => wrOf (blockOf s) (blockOf x)
  | _ => ⟨none, .ge 0⟩
theorem foot1_has {args : List Value} {x : Value} (h : lget args 0 = some x) : ∀ b, b ∈ blockOf x → (foot1 args).has b := by
  intro b hb
  match args, h with
  | [y], h =>
    have : some y = some x := h
    injection this with this
    subst this
    exact .inl hb
  | [], h => cases h
  | _ :: _ :: _, _ => exact .inl trivial
theorem foot2_has {args : List Value} {s x : Value} (h : lget args 0 = some s) (k : lget args 1 = some x) : (∀ b, b ∈ blockOf s → (foot2 args).has b) ∧ ∀ b, b ∈ blockOf x → (foot2 args).has b := by
  match args, h, k with
  | [y, z], h, k =>
    have h : some y = some s := h
    have k : some z = some x := k
    injection h with h
    injection k with k
    subst h; subst k
    exact ⟨wrOf_wr, wrOf_rd⟩
  | [], h, _ => cases h
  | [_], _, k => cases k
  | _ :: _ :: _ :: _, _, _ => exact ⟨fun _ _ => .inl trivial, fun _ _ => .inl trivial⟩

theorem args_get {ρ : Rho} {l : List Value} {m : Array Value} (h : LR ρ l m.toList) {i : Nat} {v : Value} (hv : lget l i = some v) : ∃ v', m[i]? = some v' ∧ VR ρ v v' := by
  rw [lget_eq] at hv
  obtain ⟨v', h1, h2⟩ := h.get hv
  exact ⟨v', by simpa using h1, h2⟩
theorem types_get {ts : Array TypeId} {i : Nat} {t : TypeId} (h : lget ts.toList i = some t) : ts[i]? = some t := by
  rw [lget_eq] at h; simpa using h
theorem wf_lt {h : DH} (hwf : Wf h) {b : Nat} {k : DBlk} (hb : h.get b = some k) : b < h.n := by
  rcases Nat.lt_or_ge b h.n with hl | hg
  · exact hl
  · rw [hwf b hg] at hb; cases hb
theorem get_lt {h : DH} (hwf : Wf h) {b : Nat} (hb : h.get b ≠ none) : b < h.n := by
  rcases Nat.lt_or_ge b h.n with hl | hg
  · exact hl
  · exact absurd (hwf b hg) hb
/-- Blocks that agree and are there. -/
theorem lt_of {ρ : Rho} {C : Con} {w : World} {h : DH} (hs : St P ρ C w) (hwf : Wf h) {b : Nat} (hr : ρ b ≠ none) (hC : C b = h.get b) : b < h.n := by
  cases he : ρ b with
  | none => exact absurd he hr
  | some e =>
    obtain ⟨k, hk, _⟩ := hs.has b e he
    exact wf_lt hwf (hC ▸ hk)

theorem builtin_sim {ρ : Rho} {C : Con} {w : World} {h : DH} {a : DA} {act : Act} {o : Oper} {c : Call} {b : Builtin} {r : DN} (hs : St P ρ C w) (ha : AR ρ a act) (hwf : Wf h) (ho : o.op = .call c) (hc : c.callee = .builtin b)
    (hd : dbuiltin P h b c.argTypes.toList (lmap (dev a) c.args.toList) = some r) (hfree : Free ρ h.n r.heap.n) (hg : ∀ x, (footCall a c).has x → ρ x ≠ none → x < h.n → C x = h.get x) : OpOk P act o h ρ C w r := by
  have hargs := ha.evs c.args
  have hex : execOp act.eval o = builtin b c.argTypes o.type (c.args.map fun | .const _ => true | _ => false) (c.args.map act.eval) := by
    unfold execOp
    rw [ho]
    simp only [resolve, hc]
    rfl
  generalize hm : c.args.map act.eval = margs at hargs hex
  cases b with
  | len =>
    obtain ⟨t, h1, hd1⟩ := ob_eq_some.1 (hd : (ob (lget c.argTypes.toList 0) fun t => ob (lget (lmap (dev a) c.args.toList) 0) fun x => valH h (dlen P h t x)) = some r)
    obtain ⟨x, h2, hd2⟩ := ob_eq_some.1 hd1
    obtain ⟨v, h3, rfl⟩ := valH_eq hd2
    obtain ⟨x', h4, h5⟩ := args_get hargs h2
    have hf : footCall a c = foot1 (lmap (dev a) c.args.toList) := by simp only [footCall, hc]; rfl
    exact OkV.look hs (sim_len hs h5 (fun b hb hr hn => have hl := get_lt hwf hn; ⟨hl, hg b (by rw [hf]; exact foot1_has h2 b hb) hr hl⟩) h3 (types_get h1) h4 o.type) hex
  | cap =>
    obtain ⟨t, h1, hd1⟩ := ob_eq_some.1 (hd : (ob (lget c.argTypes.toList 0) fun t => ob (lget (lmap (dev a) c.args.toList) 0) fun x => valH h (dcap P h t x)) = some r)
    obtain ⟨x, h2, hd2⟩ := ob_eq_some.1 hd1
    obtain ⟨v, h3, rfl⟩ := valH_eq hd2
    obtain ⟨x', h4, h5⟩ := args_get hargs h2
    have hf : footCall a c = foot1 (lmap (dev a) c.args.toList) := by simp only [footCall, hc]; rfl
    exact OkV.look hs (sim_cap hs h5 (fun b hb hr hn => have hl := get_lt hwf hn; ⟨hl, hg b (by rw [hf]; exact foot1_has h2 b hb) hr hl⟩) h3 (types_get h1) h4 o.type) hex
  | append =>
    obtain ⟨t, h1, hd1⟩ := ob_eq_some.1 (hd : (ob (lget c.argTypes.toList 0) fun st => ob (lget c.argTypes.toList 1) fun xt => ob (lget (lmap (dev a) c.args.toList) 0) fun s => ob (lget (lmap (dev a) c.args.toList) 1) fun x => val2 (dappend P h st xt s x)) = some r)
    obtain ⟨xt, h2, hd2⟩ := ob_eq_some.1 hd1
    obtain ⟨s, h3, hd3⟩ := ob_eq_some.1 hd2
    obtain ⟨x, h4, hd4⟩ := ob_eq_some.1 hd3
    obtain ⟨v, h', h5, rfl⟩ := val2_eq hd4
    obtain ⟨s', h6, h7⟩ := args_get hargs h3
    obtain ⟨x', h8, h9⟩ := args_get hargs h4
    have hf : footCall a c = foot2 (lmap (dev a) c.args.toList) := by simp only [footCall, hc]; rfl
    obtain ⟨f1, f2⟩ := foot2_has h3 h4
    obtain ⟨ρ', C', w', v', g1, g2, g3, g4⟩ := sim_append hs h7 h9 (fun b hb hr hn => have hl := get_lt hwf hn; ⟨hl, hg b (by rw [hf]; exact f2 b hb) hr hl⟩)
      (fun b hb hr hn => have hl := get_lt hwf hn; ⟨hl, hg b (by rw [hf]; exact f1 b hb) hr hl⟩) hfree h5 (types_get h1) (types_get h2) h6 h8 o.type
    exact OkV.make g1 g2 g3 g4 hex
  | max =>
    have hd : guard' (lall isFlat (lmap (dev a) c.args.toList)) (valH h (pureFlat P (Builtin.max_ ⟨c.argTypes.toList⟩ 0 ⟨lmap (dev a) c.args.toList⟩))) = some r := hd
    rw [guard'_eq_some] at hd
    obtain ⟨h1, hd1⟩ := hd
    obtain ⟨v, h3, rfl⟩ := valH_eq hd1
    exact OkV.look hs (sim_max hargs h1 h3 o.type) hex
  | min =>
    have hd : guard' (lall isFlat (lmap (dev a) c.args.toList)) (valH h (pureFlat P (Builtin.min_ ⟨c.argTypes.toList⟩ 0 ⟨lmap (dev a) c.args.toList⟩))) = some r := hd
    rw [guard'_eq_some] at hd
    obtain ⟨h1, hd1⟩ := hd
    obtain ⟨v, h3, rfl⟩ := valH_eq hd1
    exact OkV.look hs (sim_min hargs h1 h3 o.type) hex
  | _ => cases hd

theorem asFunc_eq {v : Value} {g : FuncId} {x y : List Value} (h : asFunc v = some (g, x, y)) : v = .func (.func g) ⟨x⟩ ⟨y⟩ := by
  cases v with
  | func f a b =>
    cases f <;> simp [asFunc] at h
    obtain ⟨rfl, rfl, rfl⟩ := h
    rfl
  | _ => simp [asFunc] at h
theorem VR.func_inv {ρ : Rho} {g : FuncId} {x y : List Value} {v' : Value} (h : VR ρ (.func (.func g) ⟨x⟩ ⟨y⟩) v') : ∃ x' y', v' = .func (.func g) ⟨x'⟩ ⟨y'⟩ ∧ LR ρ x x' ∧ LR ρ y y' := by
  cases h with
  | flat _ h => simp [flat1] at h
  | func _ _ _ x' y' h1 h2 h3 h4 => exact ⟨x', y', rfl, ⟨h1, h2⟩, ⟨h3, h4⟩⟩
theorem opt_map_nil {ρ : Rho} {a : DA} (o : Option Operand) : (oev a o) = o.map (dev a) := by cases o <;> rfl

theorem sure_flat {v : Value} (h : isSure v = true) (hf : flat1 v = true) : False := by
  unfold isSure at h
  split at h
  · cases hf
  · cases hf
  · cases h
theorem op_sim {ρ : Rho} {C : Con} {w : World} {h : DH} {a : DA} {act : Act} {o : Oper} {r : DN} (hs : St P ρ C w) (ha : AR ρ a act) (hwf : Wf h)
    (hd : dop P a h o.op = some r) (hfree : Free ρ h.n r.heap.n) (hg : ∀ x, (footOf a o.op).has x → ρ x ≠ none → x < h.n → C x = h.get x) : OpOk P act o h ρ C w r := by
  have hrd : ∀ {x : Value} {wr : Wr}, footOf a o.op = ⟨some (blockOf x), wr⟩ → Tc ρ C h x := fun hf b hb hr hn => have hl := get_lt hwf hn; ⟨hl, hg b (by rw [hf]; exact .inl hb) hr hl⟩
  have hwr : ∀ {x : Value} {rd : List Nat}, footOf a o.op = wrOf (blockOf x) rd → Tc ρ C h x := fun hf b hb hr hn => have hl := get_lt hwf hn; ⟨hl, hg b (by rw [hf]; exact wrOf_wr b hb) hr hl⟩
  cases ho : o.op with
  | move x =>
    rw [ho] at hd
    have hd : some (DN.val (dev a x) h) = some r := hd
    injection hd with hd
    subst hd
    exact OkV.pure hs (by unfold execOp; rw [ho] <;> rfl) (ha.ev x)
  | assign x =>
    rw [ho] at hd
    have hd : some (DN.val (dev a x) h) = some r := hd
    injection hd with hd
    subst hd
    exact OkV.pure hs (by unfold execOp; rw [ho] <;> rfl) (ha.ev x)
  | pick c x y =>
    rw [ho] at hd
    obtain ⟨b, h1, h2⟩ := ob_eq_some.1 (hd : (ob (asB (dev a c)) fun b => some (DN.val (sel b (dev a x) (dev a y)) h)) = some r)
    simp only [Option.some.injEq] at h2
    subst h2
    have hc := ha.ev c
    rw [asB_eq h1] at hc
    have hc := hc.bool_inv
    refine OkV.pure (v' := if b then act.eval x else act.eval y) hs ?_ ?_
    · unfold execOp; rw [ho]; simp only [hc, asBool, Sem.run_bind, Sem.run_pure, Result.andThen_ok]
    · cases b
      · exact ha.ev y
      · exact ha.ev x
  | alloc t =>
    rw [ho] at hd
    obtain ⟨z, h1, h2⟩ := ob_eq_some.1 (hd : (ob (tzeroCells P t) fun z => some (DN.val (newPtr h) (h.push (.cells z t .exact)))) = some r)
    simp only [Option.some.injEq] at h2
    subst h2
    obtain ⟨ρ', C', w', v', g1, g2, g3, g4⟩ := sim_alloc hs (dom_of hfree rfl) h1
    exact OkV.make g1 g2 g3 g4 (by unfold execOp; rw [ho] <;> rfl)
  | box t x =>
    rw [ho] at hd
    have hd : guard' (sel (isTup (dev a x)) false (sel (isTopv (dev a x)) false true)) (some (DN.val (newPtr h) (h.push (.cells (cellsOfV (dev a x)) t .exact)))) = some r := hd
    rw [guard'_eq_some] at hd
    obtain ⟨h1, h2⟩ := hd
    obtain ⟨h1, h3⟩ := sel_nand h1
    obtain ⟨h3, _⟩ := sel_nand h3
    simp only [Option.some.injEq] at h2
    subst h2
    obtain ⟨ρ', C', w', v', g1, g2, g3, g4⟩ := sim_box hs (dom_of hfree rfl) (ha.ev x) h1 h3 (t := t)
    exact OkV.make g1 g2 g3 g4 (by unfold execOp; rw [ho] <;> rfl)
  | build t ps =>
    rw [ho] at hd
    obtain ⟨v, h1, rfl⟩ := valH_eq (hd : valH h (dbuild P t (evParts a ps)) = some r)
    exact OkV.look hs (sim_build ha h1) (by unfold execOp; rw [ho] <;> rfl)
  | buildSlice t n ps =>
    rw [ho] at hd
    obtain ⟨v, h', h1, rfl⟩ := val2_eq (hd : val2 (dbuildSlice P h t n (evParts a ps)) = some r)
    have hn : h'.n = h.n + 1 := by
      unfold dbuildSlice at h1
      rw [guard'_eq_some] at h1
      obtain ⟨_, h1⟩ := h1
      obtain ⟨_, _, h1⟩ := ob_eq_some.1 h1
      obtain ⟨_, _, h1⟩ := ob_eq_some.1 h1
      obtain ⟨_, _, h1⟩ := ob_eq_some.1 h1
      rw [guard'_eq_some] at h1
      obtain ⟨_, h1⟩ := h1
      obtain ⟨_, _, h1⟩ := ob_eq_some.1 h1
      simp only [Option.some.injEq, Prod.mk.injEq] at h1
      rw [← h1.2]; rfl
    obtain ⟨ρ', C', w', v', g1, g2, g3, g4, _⟩ := sim_buildSlice hs (dom_of hfree hn) ha h1
    exact OkV.make g1 g2 g3 g4 (by unfold execOp; rw [ho] <;> rfl)
  | load t x =>
    rw [ho] at hd
    obtain ⟨v, h1, rfl⟩ := valH_eq (hd : valH h (dload P h t (dev a x)) = some r)
    exact OkV.look hs (sim_load hs (ha.ev x) (hrd (by rw [ho]; rfl)) h1) (by unfold execOp; rw [ho] <;> rfl)
  | store t x v =>
    rw [ho] at hd
    obtain ⟨h', h1, rfl⟩ := skipH_eq (hd : skipH (dstore P h t (dev a x) (dev a v)) = some r)
    obtain ⟨C', w', g1, g2, g3, _⟩ := sim_store hs (ha.ev x) (ha.ev v) (hwr (by rw [ho]; rfl)) h1
    exact OkS.make g1 g2 g3 (by unfold execOp; rw [ho] <;> rfl)
  | nilCheck x =>
    rw [ho] at hd
    have hd : guard' (isSure (dev a x)) (some (DN.val (dev a x) h)) = some r := hd
    rw [guard'_eq_some] at hd
    obtain ⟨h1, h2⟩ := hd
    simp only [Option.some.injEq] at h2
    subst h2
    have hx := ha.ev x
    have key : ∀ (v v' : Value), VR ρ v v' → isSure v = true → act.eval x = v' → (execOp act.eval o).run P w = .ok (.value v') w := by
      intro v v' hx h1 he
      unfold execOp; rw [ho]
      simp only [he]
      cases hx with
      | top b v => simp [isSure] at h1
      | flat _ hf => exact (sure_flat h1 hf).elim
      | ptr => rfl
      | sl => simp [isSure] at h1
      | map => simp [isSure] at h1
      | func => rfl
      | agg => simp [isSure] at h1
      | tup => simp [isSure] at h1
    exact OkV.pure (v' := act.eval x) hs (key _ _ hx h1 rfl) hx
  | binOp op t x y z =>
    rw [ho] at hd
    obtain ⟨v, h1, rfl⟩ := valH_eq (hd : valH h (dbin P op t x y (dev a x) (dev a y)) = some r)
    exact OkV.look hs (sim_bin ha h1) (by unfold execOp; rw [ho] <;> rfl)
  | unOp op t x =>
    rw [ho] at hd
    have hd : guard' (isFlat (dev a x)) (valH h (pureFlat P (Op.unary op (dev a x)))) = some r := hd
    rw [guard'_eq_some] at hd
    obtain ⟨h1, h2⟩ := hd
    obtain ⟨v, h3, rfl⟩ := valH_eq h2
    have hx := (ha.ev x).flat_eq h1
    rw [← hx] at h3
    exact OkV.look hs (pureFlat_run h3 ρ w) (by unfold execOp; rw [ho] <;> rfl)
  | convert src dst x =>
    rw [ho] at hd
    obtain ⟨v, h1, rfl⟩ := valH_eq (hd : valH h (dconvert P h src dst (dev a x)) = some r)
    exact OkV.look hs (sim_convert hs (ha.ev x) (hrd (by rw [ho]; rfl)) h1) (by unfold execOp; rw [ho] <;> rfl)
  | makeFunc fn x y =>
    rw [ho] at hd
    have hd : dmakeFunc a h fn x y = some r := hd
    cases fn with
    | func g =>
      have hd : some (DN.val (.func (.func g) ⟨lmap (dev a) x.toList⟩ ⟨lmap (dev a) y.toList⟩) h) = some r := hd
      injection hd with hd
      subst hd
      have hx := ha.evs x
      have hy := ha.evs y
      exact OkV.pure hs (by unfold execOp; rw [ho] <;> rfl) (.func g _ _ (x.map act.eval).toList (y.map act.eval).toList hx.1 hx.2 hy.1 hy.2)
    | _ => cases hd
  | makeMap t rv =>
    rw [ho] at hd
    cases rv with
    | some x => cases hd
    | none =>
      have hd : some (DN.val (.map (some h.n)) (h.push (.map [] 0))) = some r := hd
      injection hd with hd
      subst hd
      obtain ⟨g1, g2⟩ := new_map hs (dom_of hfree rfl)
      refine OkV.make (v' := .map (some w.heap.size)) (s := Instr.makeMap t none) ?_ g1 g2 (.map h.n ⟨w.heap.size, 0, true, 0, 0⟩ (Rho.set_same _ _ _)) (by unfold execOp; rw [ho] <;> rfl)
      simp only [Instr.makeMap, Sem.run_bind, run_newObj, Result.andThen_ok, Sem.run_pure]
  | makeSlice t l c =>
    rw [ho] at hd
    obtain ⟨v, h', h1, rfl⟩ := val2_eq (hd : val2 (dmakeSlice P h t (dev a l) (dev a c)) = some r)
    have hn : h'.n = h.n + 1 := by
      unfold dmakeSlice at h1
      obtain ⟨_, _, h1⟩ := ob_eq_some.1 h1
      obtain ⟨_, _, h1⟩ := ob_eq_some.1 h1
      obtain ⟨_, _, h1⟩ := ob_eq_some.1 h1
      obtain ⟨_, _, h1⟩ := ob_eq_some.1 h1
      obtain ⟨_, _, h1⟩ := ob_eq_some.1 h1
      obtain ⟨_, _, h1⟩ := ob_eq_some.1 h1
      rw [guard'_eq_some] at h1
      obtain ⟨_, h1⟩ := h1
      simp only [Option.some.injEq, Prod.mk.injEq] at h1
      rw [← h1.2]; rfl
    obtain ⟨ρ', C', w', v', g1, g2, g3, g4, _⟩ := sim_makeSlice hs (dom_of hfree hn) (ha.ev l) (ha.ev c) h1
    exact OkV.make g1 g2 g3 g4 (by unfold execOp; rw [ho] <;> rfl)
  | slice t x lo hi mx =>
    rw [ho] at hd
    obtain ⟨v, h1, rfl⟩ := valH_eq (hd : valH h (sel (isNone' mx) (dslice P h t (dev a x) (oev a lo) (oev a hi)) (dslice3 P h t (dev a x) (oev a lo) (oev a hi) (oev a mx))) = some r)
    cases mx with
    | none =>
      have h1 : dslice P h t (dev a x) (oev a lo) (oev a hi) = some v := h1
      exact OkV.look hs (sim_slice hs ha (hrd (by rw [ho]; rfl)) h1) (by unfold execOp; rw [ho] <;> rfl)
    | some m =>
      have h1 : dslice3 P h t (dev a x) (oev a lo) (oev a hi) (oev a (some m)) = some v := h1
      exact OkV.look hs (sim_slice3 hs ha (hrd (by rw [ho]; rfl)) h1) (by unfold execOp; rw [ho] <;> rfl)
  | fieldAddr s x f =>
    rw [ho] at hd
    obtain ⟨v, h1, rfl⟩ := valH_eq (hd : valH h (dfieldAddr P s (dev a x) f) = some r)
    exact OkV.look hs (sim_fieldAddr (ha.ev x) h1) (by unfold execOp; rw [ho] <;> rfl)
  | field s x f =>
    rw [ho] at hd
    obtain ⟨v, h1, rfl⟩ := valH_eq (hd : valH h (dfield P s (dev a x) f) = some r)
    exact OkV.look hs (sim_field (ha.ev x) h1) (by unfold execOp; rw [ho] <;> rfl)
  | indexAddr t x i =>
    rw [ho] at hd
    obtain ⟨v, h1, rfl⟩ := valH_eq (hd : valH h (dindexAddr P t (dev a x) (dev a i)) = some r)
    exact OkV.look hs (sim_indexAddr (ha.ev x) (ha.ev i) h1) (by unfold execOp; rw [ho] <;> rfl)
  | index t x i =>
    rw [ho] at hd
    obtain ⟨v, h1, rfl⟩ := valH_eq (hd : valH h (dindex P t (dev a x) (dev a i)) = some r)
    exact OkV.look hs (sim_index (ha.ev x) (ha.ev i) h1) (by unfold execOp; rw [ho] <;> rfl)
  | lookup t m k ok =>
    rw [ho] at hd
    obtain ⟨v, h1, rfl⟩ := valH_eq (hd : valH h (dlookup P h t (dev a m) (dev a k) ok) = some r)
    exact OkV.look hs (sim_lookup hs (ha.ev m) (ha.ev k) (hrd (by rw [ho]; rfl)) h1) (by unfold execOp; rw [ho] <;> rfl)
  | mapUpdate t m k v =>
    rw [ho] at hd
    obtain ⟨h', h1, rfl⟩ := skipH_eq (hd : skipH (dmapUpdate P h t (dev a m) (dev a k) (dev a v)) = some r)
    obtain ⟨C', w', g1, g2, g3, _⟩ := mapUpd_run hs (ha.ev m) (ha.ev k) (ha.ev v) (hwr (by rw [ho]; rfl)) h1
    exact OkS.make g1 g2 g3 (by unfold execOp; rw [ho] <;> rfl)
  | insert t m k v =>
    rw [ho] at hd
    obtain ⟨h', h1, rfl⟩ := skipH_eq (hd : skipH (dmapUpdate P h t (dev a m) (dev a k) (dev a v)) = some r)
    obtain ⟨C', w', g1, g2, g3, _⟩ := mapUpd_run hs (ha.ev m) (ha.ev k) (ha.ev v) (hwr (by rw [ho]; rfl)) h1
    exact OkS.make g1 g2 g3 (by unfold execOp; rw [ho] <;> rfl)
  | mapEntry t m k =>
    rw [ho] at hd
    obtain ⟨v, h', h1, rfl⟩ := val2_eq (hd : val2 (dmapEntry P h t (dev a m) (dev a k)) = some r)
    obtain ⟨C', w', v', g1, g2, g3, g4, _⟩ := mapEntry_run hs (ha.ev m) (ha.ev k) (hwr (by rw [ho]; rfl)) h1
    exact OkV.make g1 g2 g3 g4 (by unfold execOp; rw [ho] <;> rfl)
  | entryStore t m s v =>
    rw [ho] at hd
    obtain ⟨h', h1, rfl⟩ := skipH_eq (hd : skipH (dentryStore h (dev a m) (dev a s) (dev a v)) = some r)
    obtain ⟨C', w', g1, g2, g3, _⟩ := entryStore_run (t := t) hs (ha.ev m) (ha.ev s) (ha.ev v) (hwr (by rw [ho]; rfl)) h1
    exact OkS.make g1 g2 g3 (by unfold execOp; rw [ho] <;> rfl)
  | extract x i =>
    rw [ho] at hd
    have hd : dextract h (dev a x) i = some r := hd
    have hx := ha.ev x
    generalize dev a x = v at hd hx
    cases v with
    | tuple vs =>
      obtain ⟨vs⟩ := vs
      obtain ⟨v, h1, h2⟩ := ob_eq_some.1 (hd : (ob (lget vs i) fun v => some (DN.val v h)) = some r)
      simp only [Option.some.injEq] at h2
      subst h2
      obtain ⟨x', hx', h3⟩ := hx.tup_inv
      rw [lget_eq] at h1
      obtain ⟨v', h4, h5⟩ := h3.get h1
      refine OkV.look (s := Instr.extract (act.eval x) i) hs ⟨v', ?_, h5⟩ (by unfold execOp; rw [ho] <;> rfl)
      have h4' : (⟨x'⟩ : Array Value)[i]? = some v' := by simpa using h4
      simp only [hx', Instr.extract, h4', Sem.run_pure]
    | _ => cases hd
  | call c =>
    rw [ho] at hd hg
    have hd : dcall P a h c = some r := hd
    have hg : ∀ x, (footCall a c).has x → ρ x ≠ none → x < h.n → C x = h.get x := hg
    cases hc : c.callee with
    | builtin b =>
      unfold dcall at hd
      rw [hc] at hd
      exact builtin_sim hs ha hwf ho hc hd hfree hg
    | invoke => unfold dcall at hd; rw [hc] at hd; cases hd
    | value f =>
      unfold dcall at hd
      rw [hc] at hd
      obtain ⟨⟨g, x, y⟩, h1, h2⟩ := ob_eq_some.1 (hd : (ob (asFunc (dev a f)) fun g => some (DN.enter g.1 (lapp g.2.1 (lapp (lmap (dev a) c.args.toList) g.2.2)) h)) = some r)
      simp only [Option.some.injEq] at h2
      subst h2
      have hf := ha.ev f
      rw [asFunc_eq h1] at hf
      obtain ⟨x', y', e1, l1, l2⟩ := hf.func_inv
      have hargs := ha.evs c.args
      refine ⟨rfl, (⟨x'⟩ : Array Value) ++ c.args.map act.eval ++ ⟨y'⟩, ?_, ?_⟩
      · intro fn cd hfn hbd hnm
        unfold execOp
        rw [ho]
        simp only [resolve, hc, e1]
        simp [Deferred.ofValue, invoke, callFunc, Sem.run_bind, hfn, hbd, hnm]
        simpa using hnm
      · rw [lapp_eq, lapp_eq]
        simp only [Array.toList_append, List.append_assoc]
        exact l1.append (hargs.append l2)
  | _ => rw [ho] at hd; cases hd
end Go.Det
/- What an operation does to the heap of the reading. -/
set_option linter.unusedVariables false
set_option linter.unusedSimpArgs false
namespace Go.Det
variable {P : Program}

def Wr.has (w : Wr) (b : Nat) : Prop := match w with
  | .none => False
  | .one c => b = c
  | .ge n => n ≤ b
  | .set S => S b
theorem wrOf_has {l rd : List Nat} {b : Nat} (h : b ∈ l) : (wrOf l rd).wr.has b := by
  cases l with
  | nil => cases h
  | cons a l => cases l with
    | nil => simp at h; subst h; rfl
    | cons c l => exact Nat.zero_le b
structure HS (h h' : DH) (w : Wr) : Prop where
  n1 : h.n ≤ h'.n
  n2 : h'.n ≤ h.n + 1
  chg : ∀ b, b < h.n → h'.get b ≠ h.get b → w.has b
  low : h'.low ≤ h.low
  lowc : ∀ b, b < h.n → h'.get b ≠ h.get b → h'.low ≤ b
  wf : Wf h → Wf h'
theorem HS.refl (h : DH) (w : Wr) : HS h h w := ⟨Nat.le_refl _, Nat.le_succ _, fun _ _ h => absurd rfl h, Nat.le_refl _, fun _ _ h => absurd rfl h, id⟩
theorem HS.push (h : DH) (k : DBlk) (w : Wr) : HS h (h.push k) w := by
  have hg : ∀ b, b < h.n → (h.push k).get b = h.get b := fun b hb => by rw [DH.get_push, if_neg (by omega)]
  refine ⟨Nat.le_succ _, Nat.le_refl _, fun b hb h => absurd (hg b hb) h, Nat.le_refl _, fun b hb h => absurd (hg b hb) h, fun hw b hb => ?_⟩
  have hb : h.n + 1 ≤ b := hb
  rw [DH.get_push, if_neg (by omega)]
  exact hw b (by omega)
theorem HS.upd {h : DH} {b : Nat} {k0 : DBlk} (k : DBlk) {w : Wr} (hb : h.get b = some k0) (hw : w.has b) : HS h (h.upd b k) w := by
  have hg : ∀ c, (h.upd b k).get c ≠ h.get c → c = b := fun c hc => by
    rw [DH.get_upd] at hc
    by_cases h : c = b
    · exact h
    · rw [if_neg h] at hc; exact absurd rfl hc
  have hl : (h.upd b k).low = min h.low b := lesser_eq _ _
  refine ⟨Nat.le_refl _, Nat.le_succ _, fun c _ hc => by rw [hg c hc]; exact hw, by rw [hl]; omega, fun c _ hc => by rw [hg c hc, hl]; omega, fun hf c hc => ?_⟩
  have hc : h.n ≤ c := hc
  rw [DH.get_upd, if_neg]
  · exact hf c hc
  · rintro rfl; rw [hf c hc] at hb; cases hb
theorem HS.grow {h : DH} {b : Nat} {k0 : DBlk} (k1 k : DBlk) {w : Wr} (hb : h.get b = some k0) (hw : w.has b) : HS h ((h.upd b k1).push k) w := by
  have s1 := HS.upd k1 hb hw
  have s2 := HS.push (h.upd b k1) k w
  have he : ∀ c, c < h.n → ((h.upd b k1).push k).get c = (h.upd b k1).get c := fun c hc => by rw [DH.get_push, if_neg (by show c ≠ h.n; omega)]
  refine ⟨Nat.le_succ _, Nat.le_refl _, fun c hc hn => s1.chg c hc (by rw [← he c hc]; exact hn), Nat.le_trans s2.low s1.low, fun c hc hn => Nat.le_trans s2.low (s1.lowc c hc (by rw [← he c hc]; exact hn)), fun hf => s2.wf (s1.wf hf)⟩

theorem dput_hs {h h' : DH} {b o : Nat} {vs : List Value} {w : Wr} (hw : w.has b) (hd : dput h b o vs = some h') : HS h h' w := by
  unfold dput at hd
  obtain ⟨r, h1, hd1⟩ := ob_eq_some.1 hd
  rw [guard'_eq_some] at hd1
  obtain ⟨_, hd2⟩ := hd1
  simp only [Option.some.injEq] at hd2
  subst hd2
  exact .upd _ (row_eq h1) hw
theorem dstore_hs {h h' : DH} {t : TypeId} {x v : Value} {rd : List Nat} (hd : dstore P h t x v = some h') : HS h h' (wrOf (blockOf x) rd).wr := by
  unfold dstore at hd
  obtain ⟨p, h1, hd1⟩ := ob_eq_some.1 hd
  obtain ⟨s, h2, hd2⟩ := ob_eq_some.1 hd1
  rw [guard'_eq_some] at hd2
  exact dput_hs (wrOf_has (by rw [asPtr_eq h1]; simp [blockOf])) hd2.2
theorem dkeep_hs {h h' : DH} {b : Nat} {en : Ents} {k : Value} {v : Value → Value} {i : Nat} {u : Value × Nat × DH} {w : Wr} (hw : w.has b) (he : h.ents b = some en) (hd : dkeep P h b en k v i = some u) : HS h u.2.2 w := by
  unfold dkeep at hd
  obtain ⟨y, _, hd1⟩ := ob_eq_some.1 hd
  obtain ⟨ky, _, hd2⟩ := ob_eq_some.1 hd1
  simp only [Option.some.injEq] at hd2
  subst hd2
  exact .upd _ (ents_eq he) hw
theorem dmapUpdate_hs {h h' : DH} {t : TypeId} {m k v : Value} {rd : List Nat} (hd : dmapUpdate P h t m k v = some h') : HS h h' (wrOf (blockOf m) rd).wr := by
  unfold dmapUpdate at hd
  obtain ⟨mt, h1, hd1⟩ := ob_eq_some.1 hd
  obtain ⟨b, h2, hd2⟩ := ob_eq_some.1 hd1
  obtain ⟨en, h3, hd3⟩ := ob_eq_some.1 hd2
  obtain ⟨r, h4, hd4⟩ := ob_eq_some.1 hd3
  rw [guard'_eq_some] at hd4
  obtain ⟨h5, hd5⟩ := hd4
  have hw : (wrOf (blockOf m) rd).wr.has b := wrOf_has (by rw [asMapB_eq h2]; simp [blockOf])
  cases r with
  | none =>
    have hd5 : some (dadd h b en k v) = some h' := hd5
    injection hd5 with hd5
    subst hd5
    exact .upd _ (ents_eq h3) hw
  | some i =>
    have hd5 : (ob (dkeep P h b en k (fun _ => v) i) fun x => some x.2.2) = some h' := hd5
    obtain ⟨u, g1, g2⟩ := ob_eq_some.1 hd5
    simp only [Option.some.injEq] at g2
    subst g2
    exact dkeep_hs (h' := h) hw h3 g1
theorem dmapEntry_hs {h h' : DH} {t : TypeId} {m k v : Value} {rd : List Nat} (hd : dmapEntry P h t m k = some (v, h')) : HS h h' (wrOf (blockOf m) rd).wr := by
  unfold dmapEntry at hd
  obtain ⟨mt, h1, hd1⟩ := ob_eq_some.1 hd
  obtain ⟨b, h2, hd2⟩ := ob_eq_some.1 hd1
  obtain ⟨en, h3, hd3⟩ := ob_eq_some.1 hd2
  obtain ⟨r, h4, hd5⟩ := ob_eq_some.1 hd3
  have hw : (wrOf (blockOf m) rd).wr.has b := wrOf_has (by rw [asMapB_eq h2]; simp [blockOf])
  cases r with
  | none =>
    have hd5 : (ob (tzero P mt.e) fun z => guard' (isFlat z) (some (stampOf z en.clock, dadd h b en k z))) = some (v, h') := hd5
    obtain ⟨z, g1, g2⟩ := ob_eq_some.1 hd5
    rw [guard'_eq_some] at g2
    obtain ⟨_, g2⟩ := g2
    simp only [Option.some.injEq, Prod.mk.injEq] at g2
    obtain ⟨_, rfl⟩ := g2
    exact .upd _ (ents_eq h3) hw
  | some i =>
    have hd5 : (ob (dkeep P h b en k (fun x => x) i) fun x => some (stampOf x.1 x.2.1, x.2.2)) = some (v, h') := hd5
    obtain ⟨u, g1, g2⟩ := ob_eq_some.1 hd5
    simp only [Option.some.injEq, Prod.mk.injEq] at g2
    obtain ⟨_, rfl⟩ := g2
    exact dkeep_hs (h' := h) hw h3 g1
theorem dentryStore_hs {h h' : DH} {m s v : Value} {rd : List Nat} (hd : dentryStore h m s v = some h') : HS h h' (wrOf (blockOf m) rd).wr := by
  unfold dentryStore at hd
  obtain ⟨b, h2, hd1⟩ := ob_eq_some.1 hd
  obtain ⟨st, h3, hd2⟩ := ob_eq_some.1 hd1
  obtain ⟨en, h4, hd3⟩ := ob_eq_some.1 hd2
  obtain ⟨⟨i, x⟩, h5, hd4⟩ := ob_eq_some.1 hd3
  rw [guard'_eq_some] at hd4
  obtain ⟨h6, hd5⟩ := hd4
  simp only [Option.some.injEq] at hd5
  subst hd5
  exact .upd _ (ents_eq h4) (wrOf_has (by rw [asMapB_eq h2]; simp [blockOf]))
theorem dappend_hs {h h' : DH} {st xt : TypeId} {s x v : Value} {w : Wr} (hw : ∀ b, b ∈ blockOf s → w.has b) (hd : dappend P h st xt s x = some (v, h')) : HS h h' w := by
  unfold dappend at hd
  obtain ⟨e, e1, hd1⟩ := ob_eq_some.1 hd
  obtain ⟨xd, e2, hd2⟩ := ob_eq_some.1 hd1
  obtain ⟨sz, e3, hd3⟩ := ob_eq_some.1 hd2
  obtain ⟨by_, e4, hd4⟩ := ob_eq_some.1 hd3
  obtain ⟨z, e5, hd5⟩ := ob_eq_some.1 hd4
  obtain ⟨sl, e6, hd6⟩ := ob_eq_some.1 hd5
  rw [guard'_eq_some] at hd6
  obtain ⟨e7, hd7⟩ := hd6
  obtain ⟨⟨n, new⟩, e8, hd8⟩ := ob_eq_some.1 hd7
  unfold dappGo at hd8
  simp only at hd8
  cases hn0 : Nat.beq n 0 with
  | true =>
    rw [hn0, sel_true] at hd8
    simp only [Option.some.injEq, Prod.mk.injEq] at hd8
    rw [← hd8.2]; exact .refl _ _
  | false =>
  rw [hn0, sel_false] at hd8
  cases hnl : isNilSl s with
  | true =>
    rw [hnl, sel_true] at hd8
    unfold dappNil at hd8
    rw [guard'_eq_some] at hd8
    obtain ⟨_, hd9⟩ := hd8
    simp only [Option.some.injEq, Prod.mk.injEq] at hd9
    rw [← hd9.2]; exact .push _ _ _
  | false =>
  rw [hnl, sel_false] at hd8
  obtain ⟨sl2, e9, hd9⟩ := ob_eq_some.1 hd8
  rw [e6] at e9; cases e9
  obtain ⟨p, e10, hd10⟩ := ob_eq_some.1 hd9
  obtain ⟨ad, e11, e12⟩ := ob_eq_some.1 e10
  have hs1 := asSl_eq e6
  rw [e11, plOf_eq e12] at hs1
  have hw := hw p.b (by rw [hs1]; simp [blockOf])
  unfold dappRow at hd10
  obtain ⟨r, e13, hd11⟩ := ob_eq_some.1 hd10
  rw [guard'_eq_some] at hd11
  obtain ⟨e14, hd12⟩ := hd11
  cases hfit : Nat.ble (Nat.add sl.len n) sl.cap with
  | true =>
    rw [hfit, sel_true] at hd12
    unfold dappIn at hd12
    obtain ⟨h1', e16, hd13⟩ := ob_eq_some.1 hd12
    simp only [Option.some.injEq, Prod.mk.injEq] at hd13
    rw [← hd13.2]
    exact dput_hs hw e16
  | false =>
    rw [hfit, sel_false] at hd12
    unfold dappGrow at hd12
    obtain ⟨old, e16, hd13⟩ := ob_eq_some.1 hd12
    have hrow := row_eq e13
    obtain ⟨c, te, md⟩ := r
    cases md with
    | ro => cases hd13
    | exact =>
      simp only [Option.some.injEq, Prod.mk.injEq] at hd13
      rw [← hd13.2]; exact .push _ _ _
    | loose =>
      simp only [guard'_eq_some, Option.some.injEq, Prod.mk.injEq] at hd13
      rw [← hd13.2.2]; exact .grow _ _ hrow hw
theorem foot2_wr {args : List Value} {s : Value} (h : lget args 0 = some s) : ∀ b, b ∈ blockOf s → (foot2 args).wr.has b := by
  intro b hb
  match args, h with
  | [y, z], h =>
    have h : some y = some s := h
    injection h with h
    subst h
    exact wrOf_has hb
  | [], h => cases h
  | [_], _ => exact Nat.zero_le b
  | _ :: _ :: _ :: _, _ => exact Nat.zero_le b
theorem dbuiltin_hs {h : DH} {a : DA} {c : Call} {b : Builtin} {r : DN} (hc : c.callee = .builtin b) (hd : dbuiltin P h b c.argTypes.toList (lmap (dev a) c.args.toList) = some r) : HS h r.heap (footCall a c).wr := by
  cases b with
  | len =>
    obtain ⟨t, h1, hd1⟩ := ob_eq_some.1 (hd : (ob (lget c.argTypes.toList 0) fun t => ob (lget (lmap (dev a) c.args.toList) 0) fun x => valH h (dlen P h t x)) = some r)
    obtain ⟨x, h2, hd2⟩ := ob_eq_some.1 hd1
    obtain ⟨v, h3, rfl⟩ := valH_eq hd2
    exact .refl _ _
  | cap =>
    obtain ⟨t, h1, hd1⟩ := ob_eq_some.1 (hd : (ob (lget c.argTypes.toList 0) fun t => ob (lget (lmap (dev a) c.args.toList) 0) fun x => valH h (dcap P h t x)) = some r)
    obtain ⟨x, h2, hd2⟩ := ob_eq_some.1 hd1
    obtain ⟨v, h3, rfl⟩ := valH_eq hd2
    exact .refl _ _
  | append =>
    obtain ⟨t, h1, hd1⟩ := ob_eq_some.1 (hd : (ob (lget c.argTypes.toList 0) fun st => ob (lget c.argTypes.toList 1) fun xt => ob (lget (lmap (dev a) c.args.toList) 0) fun s => ob (lget (lmap (dev a) c.args.toList) 1) fun x => val2 (dappend P h st xt s x)) = some r)
    obtain ⟨xt, h2, hd2⟩ := ob_eq_some.1 hd1
    obtain ⟨s, h3, hd3⟩ := ob_eq_some.1 hd2
    obtain ⟨x, h4, hd4⟩ := ob_eq_some.1 hd3
    obtain ⟨v, h', h5, rfl⟩ := val2_eq hd4
    have hf : footCall a c = foot2 (lmap (dev a) c.args.toList) := by simp only [footCall, hc]; rfl
    exact dappend_hs (by rw [hf]; exact foot2_wr h3) h5
  | max =>
    have hd : guard' (lall isFlat (lmap (dev a) c.args.toList)) (valH h (pureFlat P (Builtin.max_ ⟨c.argTypes.toList⟩ 0 ⟨lmap (dev a) c.args.toList⟩))) = some r := hd
    rw [guard'_eq_some] at hd
    obtain ⟨h1, hd1⟩ := hd
    obtain ⟨v, h3, rfl⟩ := valH_eq hd1
    exact .refl _ _
  | min =>
    have hd : guard' (lall isFlat (lmap (dev a) c.args.toList)) (valH h (pureFlat P (Builtin.min_ ⟨c.argTypes.toList⟩ 0 ⟨lmap (dev a) c.args.toList⟩))) = some r := hd
    rw [guard'_eq_some] at hd
    obtain ⟨h1, hd1⟩ := hd
    obtain ⟨v, h3, rfl⟩ := valH_eq hd1
    exact .refl _ _
  | _ => cases hd
theorem val_hs {h : DH} {v : Option Value} {r : DN} {w : Wr} (hd : valH h v = some r) : HS h r.heap w := by
  obtain ⟨u, _, rfl⟩ := valH_eq hd; exact .refl _ _
/-- What an operation does to the heap. -/
theorem op_hs {h : DH} {a : DA} {op : Op} {r : DN} (hd : dop P a h op = some r) : HS h r.heap (footOf a op).wr := by
  cases op with
  | move x => have hd : some (DN.val (dev a x) h) = some r := hd
              injection hd with hd; subst hd; exact .refl _ _
  | assign x => have hd : some (DN.val (dev a x) h) = some r := hd
                injection hd with hd; subst hd; exact .refl _ _
  | pick c x y =>
    obtain ⟨b, h1, h2⟩ := ob_eq_some.1 (hd : (ob (asB (dev a c)) fun b => some (DN.val (sel b (dev a x) (dev a y)) h)) = some r)
    simp only [Option.some.injEq] at h2
    subst h2; exact .refl _ _
  | alloc t =>
    obtain ⟨z, h1, h2⟩ := ob_eq_some.1 (hd : (ob (tzeroCells P t) fun z => some (DN.val (newPtr h) (h.push (.cells z t .exact)))) = some r)
    simp only [Option.some.injEq] at h2
    subst h2; exact .push _ _ _
  | box t x =>
    have hd : guard' (sel (isTup (dev a x)) false (sel (isTopv (dev a x)) false true)) (some (DN.val (newPtr h) (h.push (.cells (cellsOfV (dev a x)) t .exact)))) = some r := hd
    rw [guard'_eq_some] at hd
    obtain ⟨h1, h2⟩ := hd
    simp only [Option.some.injEq] at h2
    subst h2; exact .push _ _ _
  | build t ps => exact val_hs (hd : valH h (dbuild P t (evParts a ps)) = some r)
  | buildSlice t n ps =>
    obtain ⟨v, h', h1, rfl⟩ := val2_eq (hd : val2 (dbuildSlice P h t n (evParts a ps)) = some r)
    unfold dbuildSlice at h1
    rw [guard'_eq_some] at h1
    obtain ⟨_, h1⟩ := h1
    obtain ⟨_, _, h1⟩ := ob_eq_some.1 h1
    obtain ⟨_, _, h1⟩ := ob_eq_some.1 h1
    obtain ⟨_, _, h1⟩ := ob_eq_some.1 h1
    rw [guard'_eq_some] at h1
    obtain ⟨_, h1⟩ := h1
    obtain ⟨_, _, h1⟩ := ob_eq_some.1 h1
    simp only [Option.some.injEq, Prod.mk.injEq] at h1
    show HS h h' _
    rw [← h1.2]; exact .push _ _ _
  | load t x => exact val_hs (hd : valH h (dload P h t (dev a x)) = some r)
  | store t x v =>
    obtain ⟨h', h1, rfl⟩ := skipH_eq (hd : skipH (dstore P h t (dev a x) (dev a v)) = some r)
    exact dstore_hs h1
  | nilCheck x =>
    have hd : guard' (isSure (dev a x)) (some (DN.val (dev a x) h)) = some r := hd
    rw [guard'_eq_some] at hd
    obtain ⟨h1, h2⟩ := hd
    simp only [Option.some.injEq] at h2
    subst h2; exact .refl _ _
  | binOp op t x y z => exact val_hs (hd : valH h (dbin P op t x y (dev a x) (dev a y)) = some r)
  | unOp op t x =>
    have hd : guard' (isFlat (dev a x)) (valH h (pureFlat P (Op.unary op (dev a x)))) = some r := hd
    rw [guard'_eq_some] at hd
    exact val_hs hd.2
  | convert src dst x => exact val_hs (hd : valH h (dconvert P h src dst (dev a x)) = some r)
  | makeFunc fn x y =>
    have hd : dmakeFunc a h fn x y = some r := hd
    cases fn with
    | func g =>
      have hd : some (DN.val (.func (.func g) ⟨lmap (dev a) x.toList⟩ ⟨lmap (dev a) y.toList⟩) h) = some r := hd
      injection hd with hd
      subst hd; exact .refl _ _
    | _ => cases hd
  | makeMap t rv =>
    cases rv with
    | some x => cases hd
    | none =>
      have hd : some (DN.val (.map (some h.n)) (h.push (.map [] 0))) = some r := hd
      injection hd with hd
      subst hd; exact .push _ _ _
  | makeSlice t l c =>
    obtain ⟨v, h', h1, rfl⟩ := val2_eq (hd : val2 (dmakeSlice P h t (dev a l) (dev a c)) = some r)
    unfold dmakeSlice at h1
    obtain ⟨_, _, h1⟩ := ob_eq_some.1 h1
    obtain ⟨_, _, h1⟩ := ob_eq_some.1 h1
    obtain ⟨_, _, h1⟩ := ob_eq_some.1 h1
    obtain ⟨_, _, h1⟩ := ob_eq_some.1 h1
    obtain ⟨_, _, h1⟩ := ob_eq_some.1 h1
    obtain ⟨_, _, h1⟩ := ob_eq_some.1 h1
    rw [guard'_eq_some] at h1
    obtain ⟨_, h1⟩ := h1
    simp only [Option.some.injEq, Prod.mk.injEq] at h1
    show HS h h' _
    rw [← h1.2]; exact .push _ _ _
  | slice t x lo hi mx => exact val_hs (hd : valH h (sel (isNone' mx) (dslice P h t (dev a x) (oev a lo) (oev a hi)) (dslice3 P h t (dev a x) (oev a lo) (oev a hi) (oev a mx))) = some r)
  | fieldAddr s x f => exact val_hs (hd : valH h (dfieldAddr P s (dev a x) f) = some r)
  | field s x f => exact val_hs (hd : valH h (dfield P s (dev a x) f) = some r)
  | indexAddr t x i => exact val_hs (hd : valH h (dindexAddr P t (dev a x) (dev a i)) = some r)
  | index t x i => exact val_hs (hd : valH h (dindex P t (dev a x) (dev a i)) = some r)
  | lookup t m k ok => exact val_hs (hd : valH h (dlookup P h t (dev a m) (dev a k) ok) = some r)
  | mapUpdate t m k v =>
    obtain ⟨h', h1, rfl⟩ := skipH_eq (hd : skipH (dmapUpdate P h t (dev a m) (dev a k) (dev a v)) = some r)
    exact dmapUpdate_hs h1
  | insert t m k v =>
    obtain ⟨h', h1, rfl⟩ := skipH_eq (hd : skipH (dmapUpdate P h t (dev a m) (dev a k) (dev a v)) = some r)
    exact dmapUpdate_hs h1
  | mapEntry t m k =>
    obtain ⟨v, h', h1, rfl⟩ := val2_eq (hd : val2 (dmapEntry P h t (dev a m) (dev a k)) = some r)
    exact dmapEntry_hs h1
  | entryStore t m s v =>
    obtain ⟨h', h1, rfl⟩ := skipH_eq (hd : skipH (dentryStore h (dev a m) (dev a s) (dev a v)) = some r)
    exact dentryStore_hs h1
  | extract x i =>
    have hd : dextract h (dev a x) i = some r := hd
    generalize dev a x = v at hd
    cases v with
    | tuple vs =>
      obtain ⟨v, h1, h2⟩ := ob_eq_some.1 (hd : (ob (lget vs.toList i) fun v => some (DN.val v h)) = some r)
      simp only [Option.some.injEq] at h2
      subst h2; exact .refl _ _
    | _ => cases hd
  | call c =>
    have hd : dcall P a h c = some r := hd
    show HS h r.heap (footCall a c).wr
    cases hc : c.callee with
    | builtin b =>
      unfold dcall at hd
      rw [hc] at hd
      exact dbuiltin_hs hc hd
    | invoke => unfold dcall at hd; rw [hc] at hd; cases hd
    | value f =>
      unfold dcall at hd
      rw [hc] at hd
      obtain ⟨⟨g, x, y⟩, h1, h2⟩ := ob_eq_some.1 (hd : (ob (asFunc (dev a f)) fun g => some (DN.enter g.1 (lapp g.2.1 (lapp (lmap (dev a) c.args.toList) g.2.2)) h)) = some r)
      simp only [Option.some.injEq] at h2
      subst h2; exact .refl _ _
  | _ => cases hd
end Go.Det
/- A region whose operations go in the order of their row. -/
set_option linter.unusedVariables false
set_option linter.unusedSimpArgs false
namespace Go.Det
variable {P : Program}

/-- What a stretch of the reading does to its heap. -/
structure HC (h h' : DH) : Prop where
  n1 : h.n ≤ h'.n
  low : h'.low ≤ h.low
  lowc : ∀ b, b < h.n → h'.get b ≠ h.get b → h'.low ≤ b
  wf : Wf h → Wf h'
theorem HC.refl (h : DH) : HC h h := ⟨Nat.le_refl _, Nat.le_refl _, fun _ _ h => absurd rfl h, id⟩
theorem HC.trans {a b c : DH} (h : HC a b) (k : HC b c) : HC a c := by
  refine ⟨Nat.le_trans h.n1 k.n1, Nat.le_trans k.low h.low, fun x hx hn => ?_, fun hw => k.wf (h.wf hw)⟩
  by_cases he : b.get x = a.get x
  · exact k.lowc x (Nat.lt_of_lt_of_le hx h.n1) (by rw [he]; exact hn)
  · exact Nat.le_trans k.low (h.lowc x hx he)
theorem HS.hc {h h' : DH} {w : Wr} (s : HS h h' w) : HC h h' := ⟨s.n1, s.low, s.lowc, s.wf⟩

/-- A call's end. -/
def Ret (P : Program) (ρ : Rho) (C : Con) (w : World) (h h' : DH) (v : Value) (e : Ending) (w' : World) : Prop :=
  ∃ v' ρ' C', e = .returned v' ∧ VR ρ' v v' ∧ St P ρ' C' w' ∧ Stp h h' ρ C w ρ' C' w'
structure CallOk (P : Program) (call : Caller) : Prop where
  hc : ∀ f args h v h', call f args h = some (v, h') → HC h h'
  fn : ∀ f args h v h', call f args h = some (v, h') → ∃ fn c, P.funcs[f]? = some fn ∧ fn.body = some c ∧ (fn.name == "runtime.NumGoroutine") = false
  run : ∀ f args h v h', call f args h = some (v, h') → Wf h → ∀ ρ C w (args' : Array Value), St P ρ C w → Agree ρ C h → Free ρ h.n h'.n → LR ρ args args'.toList → Calls P f args' w (Ret P ρ C w h h' v)

theorem dgo_val {call : Caller} {a a' : DA} {dst : Option Nat} {v : Value} {h h' : DH} (hd : dgo call a dst (.val v h) = some (a', h')) : a' = DA.put a dst v ∧ h' = h := by
  have hd : some (DA.put a dst v, h) = some (a', h') := hd
  simp only [Option.some.injEq, Prod.mk.injEq] at hd
  exact ⟨hd.1.symm, hd.2.symm⟩
theorem dgo_skip {call : Caller} {a a' : DA} {dst : Option Nat} {h h' : DH} (hd : dgo call a dst (.skip h) = some (a', h')) : a' = DA.put a dst undef ∧ h' = h := by
  have hd : some (DA.put a dst undef, h) = some (a', h') := hd
  simp only [Option.some.injEq, Prod.mk.injEq] at hd
  exact ⟨hd.1.symm, hd.2.symm⟩
theorem dgo_enter {call : Caller} {a a' : DA} {dst : Option Nat} {f : FuncId} {args : List Value} {h h' : DH} (hd : dgo call a dst (.enter f args h) = some (a', h')) : ∃ v, call f args h = some (v, h') ∧ a' = DA.put a dst v := by
  obtain ⟨⟨v, h1⟩, h2, h3⟩ := ob_eq_some.1 (hd : (ob (call f args h) fun r => some (DA.put a dst r.1, r.2)) = some (a', h'))
  simp only [Option.some.injEq, Prod.mk.injEq] at h3
  obtain ⟨rfl, rfl⟩ := h3
  exact ⟨v, h2, rfl⟩
theorem dstep_hc {call : Caller} (hc : CallOk P call) {a a' : DA} {h h' : DH} {o : Oper} (hd : dstep P call a h o = some (a', h')) : HC h h' := by
  unfold dstep at hd
  obtain ⟨r, h1, h2⟩ := ob_eq_some.1 hd
  have hs := op_hs h1
  cases r with
  | val v h3 => rw [(dgo_val h2).2]; exact hs.hc
  | skip h3 => rw [(dgo_skip h2).2]; exact hs.hc
  | enter f args h3 =>
    obtain ⟨v, h4, _⟩ := dgo_enter h2
    exact hs.hc.trans (hc.hc _ _ _ _ _ h4)
theorem undef_vr (ρ : Rho) : VR ρ undef undef := .of_flat rfl

theorem not_v2 {x : Option (Value × DH)} {f : FuncId} {args : List Value} {h : DH} (hx : val2 x = some (DN.enter f args h)) : False := by obtain ⟨_, _, _, hx⟩ := val2_eq hx; cases hx
theorem not_vh {x : Option Value} {hh h : DH} {f : FuncId} {args : List Value} (hx : valH hh x = some (DN.enter f args h)) : False := by obtain ⟨_, _, hx⟩ := valH_eq hx; cases hx
theorem not_sh {x : Option DH} {h : DH} {f : FuncId} {args : List Value} (hx : skipH x = some (DN.enter f args h)) : False := by obtain ⟨_, _, hx⟩ := skipH_eq hx; cases hx
/-- What enters a function is a call of a value. -/
theorem enter_call {h h' : DH} {a : DA} {op : Op} {f : FuncId} {args : List Value} (hd : dop P a h op = some (.enter f args h')) : ∃ c x, op = .call c ∧ c.callee = .value x := by
  cases op with
  | call c =>
    refine ⟨c, ?_⟩
    have hd : dcall P a h c = some (.enter f args h') := hd
    cases hc : c.callee with
    | value x => exact ⟨x, rfl, rfl⟩
    | invoke x y => unfold dcall at hd; rw [hc] at hd; cases hd
    | builtin bi =>
      exfalso
      unfold dcall at hd
      rw [hc] at hd
      have hd : dbuiltin P h bi c.argTypes.toList (lmap (dev a) c.args.toList) = some (.enter f args h') := hd
      generalize lmap (dev a) c.args.toList = vs at hd
      cases bi with
      | len =>
        obtain ⟨t, _, h1⟩ := ob_eq_some.1 (hd : (ob (lget c.argTypes.toList 0) fun t => ob (lget vs 0) fun x => valH h (dlen P h t x)) = _)
        obtain ⟨x, _, h1⟩ := ob_eq_some.1 h1
        exact not_vh h1
      | cap =>
        obtain ⟨t, _, h1⟩ := ob_eq_some.1 (hd : (ob (lget c.argTypes.toList 0) fun t => ob (lget vs 0) fun x => valH h (dcap P h t x)) = _)
        obtain ⟨x, _, h1⟩ := ob_eq_some.1 h1
        exact not_vh h1
      | append =>
        obtain ⟨t, _, h1⟩ := ob_eq_some.1 (hd : (ob (lget c.argTypes.toList 0) fun st => ob (lget c.argTypes.toList 1) fun xt => ob (lget vs 0) fun s => ob (lget vs 1) fun x => val2 (dappend P h st xt s x)) = _)
        obtain ⟨t, _, h1⟩ := ob_eq_some.1 h1
        obtain ⟨t, _, h1⟩ := ob_eq_some.1 h1
        obtain ⟨t, _, h1⟩ := ob_eq_some.1 h1
        exact not_v2 h1
      | max =>
        have hd : guard' (lall isFlat vs) (valH h (pureFlat P (Builtin.max_ ⟨c.argTypes.toList⟩ 0 ⟨vs⟩))) = _ := hd
        rw [guard'_eq_some] at hd
        exact not_vh hd.2
      | min =>
        have hd : guard' (lall isFlat vs) (valH h (pureFlat P (Builtin.min_ ⟨c.argTypes.toList⟩ 0 ⟨vs⟩))) = _ := hd
        rw [guard'_eq_some] at hd
        exact not_vh hd.2
      | _ => cases hd
  | pick c x y =>
    obtain ⟨b, h1, h2⟩ := ob_eq_some.1 (hd : (ob (asB (dev a c)) fun b => some (DN.val (sel b (dev a x) (dev a y)) h)) = _)
    cases h2
  | alloc t =>
    obtain ⟨z, h1, h2⟩ := ob_eq_some.1 (hd : (ob (tzeroCells P t) fun z => some (DN.val (newPtr h) (h.push (.cells z t .exact)))) = _)
    cases h2
  | box t x =>
    have hd : guard' (sel (isTup (dev a x)) false (sel (isTopv (dev a x)) false true)) (some (DN.val (newPtr h) (h.push (.cells (cellsOfV (dev a x)) t .exact)))) = _ := hd
    rw [guard'_eq_some] at hd
    cases hd.2
  | nilCheck x =>
    have hd : guard' (isSure (dev a x)) (some (DN.val (dev a x) h)) = _ := hd
    rw [guard'_eq_some] at hd
    cases hd.2
  | unOp op t x =>
    have hd : guard' (isFlat (dev a x)) (valH h (pureFlat P (Op.unary op (dev a x)))) = _ := hd
    rw [guard'_eq_some] at hd
    exact (not_vh hd.2).elim
  | makeFunc fn x y =>
    have hd : dmakeFunc a h fn x y = _ := hd
    cases fn <;> cases hd
  | makeMap t rv => cases rv <;> cases hd
  | extract x i =>
    have hd : dextract h (dev a x) i = _ := hd
    generalize dev a x = v at hd
    cases v with
    | tuple vs =>
      obtain ⟨v, h1, h2⟩ := ob_eq_some.1 (hd : (ob (lget vs.toList i) fun v => some (DN.val v h)) = _)
      cases h2
    | _ => cases hd
  | build t ps => exact (not_vh (hd : valH h (dbuild P t (evParts a ps)) = _)).elim
  | buildSlice t n ps => exact (not_v2 (hd : val2 (dbuildSlice P h t n (evParts a ps)) = _)).elim
  | load t x => exact (not_vh (hd : valH h (dload P h t (dev a x)) = _)).elim
  | store t x v => exact (not_sh (hd : skipH (dstore P h t (dev a x) (dev a v)) = _)).elim
  | binOp op t x y z => exact (not_vh (hd : valH h (dbin P op t x y (dev a x) (dev a y)) = _)).elim
  | convert src dst x => exact (not_vh (hd : valH h (dconvert P h src dst (dev a x)) = _)).elim
  | makeSlice t l c => exact (not_v2 (hd : val2 (dmakeSlice P h t (dev a l) (dev a c)) = _)).elim
  | slice t x lo hi mx => exact (not_vh (hd : valH h (sel (isNone' mx) (dslice P h t (dev a x) (oev a lo) (oev a hi)) (dslice3 P h t (dev a x) (oev a lo) (oev a hi) (oev a mx))) = _)).elim
  | fieldAddr s x f => exact (not_vh (hd : valH h (dfieldAddr P s (dev a x) f) = _)).elim
  | field s x f => exact (not_vh (hd : valH h (dfield P s (dev a x) f) = _)).elim
  | indexAddr t x i => exact (not_vh (hd : valH h (dindexAddr P t (dev a x) (dev a i)) = _)).elim
  | index t x i => exact (not_vh (hd : valH h (dindex P t (dev a x) (dev a i)) = _)).elim
  | lookup t m k ok => exact (not_vh (hd : valH h (dlookup P h t (dev a m) (dev a k) ok) = _)).elim
  | mapUpdate t m k v => exact (not_sh (hd : skipH (dmapUpdate P h t (dev a m) (dev a k) (dev a v)) = _)).elim
  | insert t m k v => exact (not_sh (hd : skipH (dmapUpdate P h t (dev a m) (dev a k) (dev a v)) = _)).elim
  | mapEntry t m k => exact (not_v2 (hd : val2 (dmapEntry P h t (dev a m) (dev a k)) = _)).elim
  | entryStore t m s v => exact (not_sh (hd : skipH (dentryStore h (dev a m) (dev a s) (dev a v)) = _)).elim
  | _ => cases hd
/-- One operation, in the model. -/
theorem dstep_sim {call : Caller} (hc : CallOk P call) {a a' : DA} {h h' : DH} {o : Oper} (hd : dstep P call a h o = some (a', h')) {ρ : Rho} {C : Con} {w : World} {act : Act} (hs : St P ρ C w) (ha : AR ρ a act) (hwf : Wf h)
    (hfree : Free ρ h.n h'.n) (hg : ∀ x, (footOf a o.op).has x → ρ x ≠ none → x < h.n → C x = h.get x) {K : Act → World → Prop} {Q : Exit → Act → World → Prop}
    (hK : ∀ v v' ρ' C' w', a' = DA.put a o.dst v → VR ρ' v v' → St P ρ' C' w' → Stp h h' ρ C w ρ' C' w' → K (act.put o.dst v') w') : o.wp P act w K Q := by
  unfold dstep at hd
  obtain ⟨r, h1, h2⟩ := ob_eq_some.1 hd
  unfold Oper.wp
  cases r with
  | val v h3 =>
    obtain ⟨e1, e2⟩ := dgo_val h2
    subst e2
    obtain ⟨ρ', C', w', v', g1, g2, g3, g4⟩ := (op_sim hs ha hwf h1 hfree hg : OkV _ _ _ _ _ _ _ _ _)
    rw [g1]
    exact hK v v' ρ' C' w' e1 g4 g2 g3
  | skip h3 =>
    obtain ⟨e1, e2⟩ := dgo_skip h2
    subst e2
    obtain ⟨ρ', C', w', g1, g2, g3⟩ := (op_sim hs ha hwf h1 hfree hg : OkS _ _ _ _ _ _ _ _)
    rw [g1]
    exact hK undef undef ρ' C' w' e1 (undef_vr ρ') g2 g3
  | enter f args h3 =>
    obtain ⟨v, h4, e1⟩ := dgo_enter h2
    have ok := op_sim hs ha hwf h1 (fun b h5 h6 => by
      have hn := (op_hs h1).n2
      have := (hc.hc _ _ _ _ _ h4).n1
      exact hfree b h5 (Nat.lt_of_lt_of_le h6 this)) hg
    obtain ⟨rfl, args', g1, g2⟩ := ok
    obtain ⟨fn, c, f1, f2, f3⟩ := hc.fn _ _ _ _ _ h4
    rw [g1 fn c f1 f2 f3]
    -- the operation is a call, and looks at all
    have hall : Agree ρ C h3 := by
      intro b hb hr
      refine hg b ?_ hr hb
      obtain ⟨cl, x, ho, hcl⟩ := enter_call h1
      rw [ho]
      show (footCall a cl).has b
      simp only [footCall, hcl]; exact .inl trivial
    refine (hc.run _ _ _ _ _ h4 hwf ρ C w args' hs hall hfree g2).mono ?_
    rintro e w' ⟨v', ρ', C', rfl, k1, k2, k3⟩
    exact hK v v' ρ' C' w' e1 k1 k2 k3

/-! ### guards -/
def boolOf : Value → Option Bool
  | .bool c => some c
  | _ => none
theorem got_eq {ρ : Rho} {x y : Value} (hv : VR ρ x y) {want b : Bool} (hd : gotB x want = some b) : (boolOf y == some want) = b := by
  cases hv with
  | top => simp [gotB] at hd
  | flat _ hf =>
    cases x with
    | bool c =>
      have hd : some (sel c want (sel want false true)) = some b := hd
      injection hd with hd
      subst hd; cases c <;> cases want <;> rfl
    | chan r => simp [gotB] at hd
    | _ => first | (simp [gotB] at hd; subst hd; rfl) | (simp [flat1] at hf; done)
  | _ => simp [gotB] at hd; subst hd; rfl
theorem wanted_eq {ρ : Rho} {a : DA} {act : Act} (ha : AR ρ a act) {ops : Array Oper} {o : Oper} {b : Bool} (hd : dwanted ops.toList a o = some b) : Region.wanted o (yielded ops act.tmps) = b := by
  unfold dwanted at hd
  unfold Region.wanted
  cases hgd : o.guard with
  | none =>
    rw [hgd] at hd
    have hd : some true = some b := hd
    injection hd
  | some g =>
    obtain ⟨j, want⟩ := g
    rw [hgd] at hd
    have hd : dwantedAt ops.toList a (j, want) = some b := hd
    unfold dwantedAt dstOf at hd
    simp only at hd ⊢
    rw [lget_eq] at hd
    unfold yielded
    have e : ops.toList[j]? = ops[j]? := by simp
    rw [e] at hd
    cases hoj : ops[j]? with
    | none =>
      rw [hoj] at hd
      have hd : some false = some b := hd
      injection hd
    | some oj =>
      rw [hoj] at hd
      simp only [ob_some] at hd
      simp only [Option.bind_some]
      cases hdst : oj.dst with
      | none =>
        rw [hdst] at hd
        have hd : some false = some b := hd
        injection hd
      | some t =>
        rw [hdst] at hd
        have hd : gotB (a t) want = some b := hd
        have hv := ha t
        rw [Array.getD_eq_getD_getElem?] at hv
        simp only [Option.bind_some]
        cases hat : act.tmps[t]? with
        | none => rw [hat] at hv; exact got_eq hv hd
        | some y =>
          rw [hat] at hv
          have := got_eq hv hd
          rw [← this]
          cases y <;> rfl

theorem dops_cons {call : Caller} {ops : List Oper} {o : Oper} {l : List Oper} {a : DA} {h : DH} :
    dops P call ops (o :: l) a h = ob (dwanted ops a o) fun w => sel w (ob (dstep P call a h o) fun x => dops P call ops l x.1 x.2) (dops P call ops l (DA.put a o.dst undef) h) := rfl
theorem dops_hc {call : Caller} (hc : CallOk P call) {ops : List Oper} : ∀ {l : List Oper} {a a' : DA} {h h' : DH}, dops P call ops l a h = some (a', h') → HC h h' := by
  intro l
  induction l with
  | nil =>
    intro a a' h h' hd
    have hd : some (a, h) = some (a', h') := hd
    simp only [Option.some.injEq, Prod.mk.injEq] at hd
    rw [hd.2]; exact .refl _
  | cons o l ih =>
    intro a a' h h' hd
    rw [dops_cons] at hd
    obtain ⟨b, h1, h2⟩ := ob_eq_some.1 hd
    cases b with
    | false => exact ih h2
    | true =>
      obtain ⟨x, h3, h4⟩ := ob_eq_some.1 (h2 : (ob (dstep P call a h o) fun x => dops P call ops l x.1 x.2) = some (a', h'))
      exact (dstep_hc hc (a' := x.1) (h' := x.2) h3).trans (ih h4)
theorem Free.step {h h1 : DH} {ρ ρ1 : Rho} {C C1 : Con} {w w1 : World} {n : Nat} (hf : Free ρ h.n n) (s : Stp h h1 ρ C w ρ1 C1 w1) : Free ρ1 h1.n n := by
  intro b hb hlt
  cases he : ρ1 b with
  | none => rfl
  | some e =>
    have := s.fresh b e he (hf b (Nat.le_trans s.mono hb) hlt)
    omega
theorem Free.sub {ρ : Rho} {n m k : Nat} (h : Free ρ n k) (hm : m ≤ k) : Free ρ n m := fun b h1 h2 => h b h1 (Nat.lt_of_lt_of_le h2 hm)

/-- The rest of the row, from some operation on. -/
theorem dops_sim {call : Caller} (hc : CallOk P call) {ops : Array Oper} {Q : Exit → Act → World → Prop} : ∀ {l : List Oper} {i : Nat} {a a' : DA} {h h' : DH} {ρ : Rho} {C : Con} {w : World} {act : Act}, ops.toList.drop i = l →
    dops P call ops.toList l a h = some (a', h') → Wf h → St P ρ C w → AR ρ a act → Agree ρ C h → Free ρ h.n h'.n → (∀ o, o ∈ l → ∀ t, o.dst = some t → t < act.tmps.size) →
    (∀ ρ' C' w' act', Stp h h' ρ C w ρ' C' w' → St P ρ' C' w' → AR ρ' a' act' → act'.tmps.size = act.tmps.size → act'.defers = act.defers → Q .normal act' w') → wpOps P ops Q (List.range' i l.length) act w := by
  intro l
  induction l with
  | nil =>
    intro i a a' h h' ρ C w act hl hd hwf hs ha hag hfree hdst hQ
    have hd : some (a, h) = some (a', h') := hd
    simp only [Option.some.injEq, Prod.mk.injEq] at hd
    obtain ⟨rfl, rfl⟩ := hd
    exact hQ ρ C w act .refl hs ha rfl rfl
  | cons o l ih =>
    intro i a a' h h' ρ C w act hl hd hwf hs ha hag hfree hdst hQ
    have hi : i < ops.toList.length := by
      rcases Nat.lt_or_ge i ops.toList.length with h1 | h1
      · exact h1
      · rw [List.drop_of_length_le h1] at hl; cases hl
    rw [List.drop_eq_getElem_cons hi] at hl
    injection hl with hl1 hl2
    have hoi : ops[i]? = some o := by rw [← hl1]; simp
    rw [dops_cons] at hd
    obtain ⟨b, h1, h2⟩ := ob_eq_some.1 hd
    have hw := wanted_eq ha h1
    rw [List.length_cons, List.range'_succ]
    unfold wpOps
    rw [hoi]
    simp only [hw]
    have hdo := hdst o (by simp)
    have hdl : ∀ v, ∀ o', o' ∈ l → ∀ t, o'.dst = some t → t < (act.put o.dst v).tmps.size := fun v o' ho' t ht => by rw [Act.size_put]; exact hdst o' (by simp [ho']) t ht
    cases b with
    | false =>
      simp only [Bool.false_eq_true, if_false]
      refine ih hl2 h2 hwf hs (ha.put o.dst (undef_vr ρ) hdo) hag hfree (hdl _) ?_
      intro ρ' C' w' act' k1 k2 k3 k4 k5
      exact hQ ρ' C' w' act' k1 k2 k3 (by rw [k4, Act.size_put]) (by rw [k5, Act.defers_put])
    | true =>
      simp only [if_true]
      left
      obtain ⟨x, h3, h4⟩ := ob_eq_some.1 (h2 : (ob (dstep P call a h o) fun x => dops P call ops.toList l x.1 x.2) = some (a', h'))
      have hc1 := dstep_hc hc (a' := x.1) (h' := x.2) h3
      have hc2 := dops_hc hc h4
      refine dstep_sim hc (a' := x.1) (h' := x.2) h3 hs ha hwf (hfree.sub hc2.n1) (fun y _ hr hy => hag y hy hr) ?_
      intro v v' ρ1 C1 w1 e1 hv s1 st1
      have ha1 : AR ρ1 x.1 (act.put o.dst v') := by rw [e1]; exact (ha.mono st1.ext).put o.dst hv hdo
      refine ih hl2 h4 (hc1.wf hwf) s1 ha1 (st1.agree hag) (hfree.step st1) (hdl _) ?_
      intro ρ' C' w' act' k1 k2 k3 k4 k5
      exact hQ ρ' C' w' act' (st1.trans hag k1) k2 k3 (by rw [k4, Act.size_put]) (by rw [k5, Act.defers_put])
end Go.Det
/- What an operation looks at; what goes before what. -/
set_option linter.unusedVariables false
set_option linter.unusedSimpArgs false
namespace Go.Det
variable {P : Program}

def Same (a a' : DA) (xs : List Operand) : Prop := ∀ x, x ∈ xs → dev a x = dev a' x
theorem lmap_congr {α β : Type} {f g : α → β} {l : List α} (h : ∀ x, x ∈ l → f x = g x) : lmap f l = lmap g l := by
  rw [lmap_eq, lmap_eq]; exact List.map_congr_left h
theorem parts_congr {a a' : DA} {ps : Array (Nat × Operand)} (h : Same a a' ((ps.toList.map (·.2)).toArray).toList) : evParts a ps = evParts a' ps := by
  unfold evParts
  refine lmap_congr fun p hp => ?_
  rw [h p.2 (by simp; exact ⟨p.1, by simpa using hp⟩)]
theorem oev_congr {a a' : DA} {o : Option Operand} (h : ∀ x, o = some x → dev a x = dev a' x) : oev a o = oev a' o := by
  cases o with
  | none => rfl
  | some x => show some (dev a x) = some (dev a' x); rw [h x rfl]
theorem args_congr {a a' : DA} {xs : Array Operand} (h : Same a a' xs.toList) : lmap (dev a) xs.toList = lmap (dev a') xs.toList := lmap_congr h
theorem dop_congr {a a' : DA} {op : Op} (h : Same a a' op.operands.toList) (hh : DH) : dop P a hh op = dop P a' hh op ∧ footOf a op = footOf a' op := by
  have one : ∀ {x : Operand}, x ∈ op.operands.toList → dev a x = dev a' x := fun hx => h _ hx
  cases op with
  | pick c x y =>
    have e1 := one (x := c) (by simp [Op.operands])
    have e2 := one (x := x) (by simp [Op.operands])
    have e3 := one (x := y) (by simp [Op.operands])
    exact ⟨by show dpick a hh c x y = dpick a' hh c x y; unfold dpick; rw [e1, e2, e3], rfl⟩
  | build t ps => exact ⟨by show valH hh (dbuild P t (evParts a ps)) = valH hh (dbuild P t (evParts a' ps)); rw [parts_congr h], rfl⟩
  | buildSlice t n ps => exact ⟨by show val2 (dbuildSlice P hh t n (evParts a ps)) = val2 (dbuildSlice P hh t n (evParts a' ps)); rw [parts_congr h], rfl⟩
  | makeFunc fn x y =>
    have e1 : lmap (dev a) x.toList = lmap (dev a') x.toList := args_congr fun z hz => h z (by simp [Op.operands] at *; exact .inl hz)
    have e2 : lmap (dev a) y.toList = lmap (dev a') y.toList := args_congr fun z hz => h z (by simp [Op.operands] at *; exact .inr hz)
    refine ⟨?_, rfl⟩
    show dmakeFunc a hh fn x y = dmakeFunc a' hh fn x y
    unfold dmakeFunc
    rw [e1, e2]
  | makeMap t r => exact ⟨rfl, rfl⟩
  | slice t x lo hi mx =>
    have e1 := one (x := x) (by simp [Op.operands])
    have e2 : oev a lo = oev a' lo := oev_congr fun z hz => h z (by subst hz; simp [Op.operands])
    have e3 : oev a hi = oev a' hi := oev_congr fun z hz => h z (by subst hz; simp [Op.operands])
    have e4 : oev a mx = oev a' mx := oev_congr fun z hz => h z (by subst hz; simp [Op.operands])
    constructor
    · show valH hh (sel (isNone' mx) (dslice P hh t (dev a x) (oev a lo) (oev a hi)) (dslice3 P hh t (dev a x) (oev a lo) (oev a hi) (oev a mx))) = valH hh (sel (isNone' mx) (dslice P hh t (dev a' x) (oev a' lo) (oev a' hi)) (dslice3 P hh t (dev a' x) (oev a' lo) (oev a' hi) (oev a' mx)))
      rw [e1, e2, e3, e4]
    · show (⟨some (blockOf (dev a x)), .none⟩ : Foot) = ⟨some (blockOf (dev a' x)), .none⟩
      rw [e1]
  | call c =>
    have e1 : lmap (dev a) c.args.toList = lmap (dev a') c.args.toList := args_congr fun z hz => h z (by simp [Op.operands, Call.operands] at *; first | exact .inr hz | (cases c.callee <;> simp_all))
    have e2 : ∀ f, c.callee = .value f → dev a f = dev a' f := fun f hf => h f (by simp [Op.operands, Call.operands, hf])
    constructor
    · show dcall P a hh c = dcall P a' hh c
      unfold dcall
      cases hc : c.callee with
      | builtin b => simp only; rw [e1]
      | invoke x y => rfl
      | value f => simp only; rw [e1, e2 f hc]
    · show footCall a c = footCall a' c
      unfold footCall
      rw [e1]
  | store t x v =>
    have e1 := one (x := x) (by simp [Op.operands])
    have e2 := one (x := v) (by simp [Op.operands])
    exact ⟨by show skipH (dstore P hh t (dev a x) (dev a v)) = skipH (dstore P hh t (dev a' x) (dev a' v)); rw [e1, e2], by show wrOf (blockOf (dev a x)) [] = wrOf (blockOf (dev a' x)) []; rw [e1]⟩
  | binOp op t x y z =>
    have e1 := one (x := x) (by simp [Op.operands])
    have e2 := one (x := y) (by simp [Op.operands])
    exact ⟨by show valH hh (dbin P op t x y (dev a x) (dev a y)) = valH hh (dbin P op t x y (dev a' x) (dev a' y)); rw [e1, e2], rfl⟩
  | makeSlice t l c =>
    have e1 := one (x := l) (by simp [Op.operands])
    have e2 := one (x := c) (by simp [Op.operands])
    exact ⟨by show val2 (dmakeSlice P hh t (dev a l) (dev a c)) = val2 (dmakeSlice P hh t (dev a' l) (dev a' c)); rw [e1, e2], rfl⟩
  | indexAddr t x i =>
    have e1 := one (x := x) (by simp [Op.operands])
    have e2 := one (x := i) (by simp [Op.operands])
    exact ⟨by show valH hh (dindexAddr P t (dev a x) (dev a i)) = valH hh (dindexAddr P t (dev a' x) (dev a' i)); rw [e1, e2], rfl⟩
  | index t x i =>
    have e1 := one (x := x) (by simp [Op.operands])
    have e2 := one (x := i) (by simp [Op.operands])
    exact ⟨by show valH hh (dindex P t (dev a x) (dev a i)) = valH hh (dindex P t (dev a' x) (dev a' i)); rw [e1, e2], rfl⟩
  | lookup t m k ok =>
    have e1 := one (x := m) (by simp [Op.operands])
    have e2 := one (x := k) (by simp [Op.operands])
    exact ⟨by show valH hh (dlookup P hh t (dev a m) (dev a k) ok) = valH hh (dlookup P hh t (dev a' m) (dev a' k) ok); rw [e1, e2], by show (⟨some (blockOf (dev a m)), .none⟩ : Foot) = ⟨some (blockOf (dev a' m)), .none⟩; rw [e1]⟩
  | mapEntry t m k =>
    have e1 := one (x := m) (by simp [Op.operands])
    have e2 := one (x := k) (by simp [Op.operands])
    exact ⟨by show val2 (dmapEntry P hh t (dev a m) (dev a k)) = val2 (dmapEntry P hh t (dev a' m) (dev a' k)); rw [e1, e2], by show wrOf (blockOf (dev a m)) [] = wrOf (blockOf (dev a' m)) []; rw [e1]⟩
  | mapUpdate t m k v =>
    have e1 := one (x := m) (by simp [Op.operands])
    have e2 := one (x := k) (by simp [Op.operands])
    have e3 := one (x := v) (by simp [Op.operands])
    exact ⟨by show skipH (dmapUpdate P hh t (dev a m) (dev a k) (dev a v)) = skipH (dmapUpdate P hh t (dev a' m) (dev a' k) (dev a' v)); rw [e1, e2, e3], by show wrOf (blockOf (dev a m)) [] = wrOf (blockOf (dev a' m)) []; rw [e1]⟩
  | insert t m k v =>
    have e1 := one (x := m) (by simp [Op.operands])
    have e2 := one (x := k) (by simp [Op.operands])
    have e3 := one (x := v) (by simp [Op.operands])
    exact ⟨by show skipH (dmapUpdate P hh t (dev a m) (dev a k) (dev a v)) = skipH (dmapUpdate P hh t (dev a' m) (dev a' k) (dev a' v)); rw [e1, e2, e3], by show wrOf (blockOf (dev a m)) [] = wrOf (blockOf (dev a' m)) []; rw [e1]⟩
  | entryStore t m s v =>
    have e1 := one (x := m) (by simp [Op.operands])
    have e2 := one (x := s) (by simp [Op.operands])
    have e3 := one (x := v) (by simp [Op.operands])
    exact ⟨by show skipH (dentryStore hh (dev a m) (dev a s) (dev a v)) = skipH (dentryStore hh (dev a' m) (dev a' s) (dev a' v)); rw [e1, e2, e3], by show wrOf (blockOf (dev a m)) [] = wrOf (blockOf (dev a' m)) []; rw [e1]⟩
  | move x => have e1 := one (x := x) (by simp [Op.operands])
              exact ⟨by show some (DN.val (dev a x) hh) = some (DN.val (dev a' x) hh); rw [e1], rfl⟩
  | assign x => have e1 := one (x := x) (by simp [Op.operands])
                exact ⟨by show some (DN.val (dev a x) hh) = some (DN.val (dev a' x) hh); rw [e1], rfl⟩
  | box t x => have e1 := one (x := x) (by simp [Op.operands])
               exact ⟨by show dbox hh t (dev a x) = dbox hh t (dev a' x); rw [e1], rfl⟩
  | load t x => have e1 := one (x := x) (by simp [Op.operands])
                exact ⟨by show valH hh (dload P hh t (dev a x)) = valH hh (dload P hh t (dev a' x)); rw [e1], by show (⟨some (blockOf (dev a x)), .none⟩ : Foot) = ⟨some (blockOf (dev a' x)), .none⟩; rw [e1]⟩
  | nilCheck x => have e1 := one (x := x) (by simp [Op.operands])
                  exact ⟨by show dnilCheck hh (dev a x) = dnilCheck hh (dev a' x); rw [e1], rfl⟩
  | unOp op t x => have e1 := one (x := x) (by simp [Op.operands])
                   exact ⟨by show dun P hh op (dev a x) = dun P hh op (dev a' x); rw [e1], rfl⟩
  | convert s t x => have e1 := one (x := x) (by simp [Op.operands])
                     exact ⟨by show valH hh (dconvert P hh s t (dev a x)) = valH hh (dconvert P hh s t (dev a' x)); rw [e1], by show (⟨some (blockOf (dev a x)), .none⟩ : Foot) = ⟨some (blockOf (dev a' x)), .none⟩; rw [e1]⟩
  | fieldAddr s x f => have e1 := one (x := x) (by simp [Op.operands])
                       exact ⟨by show valH hh (dfieldAddr P s (dev a x) f) = valH hh (dfieldAddr P s (dev a' x) f); rw [e1], rfl⟩
  | field s x f => have e1 := one (x := x) (by simp [Op.operands])
                   exact ⟨by show valH hh (dfield P s (dev a x) f) = valH hh (dfield P s (dev a' x) f); rw [e1], rfl⟩
  | extract x i => have e1 := one (x := x) (by simp [Op.operands])
                   exact ⟨by show dextract hh (dev a x) i = dextract hh (dev a' x) i; rw [e1], rfl⟩
  | _ => exact ⟨rfl, rfl⟩
/-- Temporaries that an operation names. -/
theorem same_of {a a' : DA} {ops : Array Oper} {o : Oper} (h : ∀ t, t ∈ o.looksAt ops → a t = a' t) : Same a a' o.op.operands.toList := by
  intro x hx
  cases x with
  | tmp t =>
    show a t = a' t
    refine h t ?_
    unfold Oper.looksAt
    rw [List.mem_append]
    left
    rw [List.mem_filterMap]
    exact ⟨.tmp t, hx, rfl⟩
  | _ => rfl
theorem dwanted_congr {a a' : DA} {ops : Array Oper} {o : Oper} (h : ∀ t, t ∈ o.looksAt ops → a t = a' t) : dwanted ops.toList a o = dwanted ops.toList a' o := by
  unfold dwanted
  cases hg : o.guard with
  | none => rfl
  | some g =>
    show dwantedAt ops.toList a g = dwantedAt ops.toList a' g
    unfold dwantedAt dstOf
    rw [lget_eq]
    cases ho : ops.toList[g.1]? with
    | none => rfl
    | some oj =>
      simp only [ob_some]
      cases hd : oj.dst with
      | none => rfl
      | some t =>
        show gotB (a t) g.2 = gotB (a' t) g.2
        rw [h t]
        unfold Oper.looksAt
        rw [List.mem_append]
        right
        have ho' : ops[g.1]? = some oj := by simpa using ho
        rw [hg]
        simp [ho', hd]

/-! ### before -/
theorem testBit_or_fold {f : Edge → Option Nat} : ∀ (l : List Edge) (s i : Nat), (l.foldl (fun s e => match f e with | some m => s ||| m | none => s) s).testBit i = true → s.testBit i = true ∨ ∃ e ∈ l, ∃ m, f e = some m ∧ m.testBit i = true := by
  intro l
  induction l with
  | nil => intro s i h; exact .inl h
  | cons e l ih =>
    intro s i h
    simp only [List.foldl_cons] at h
    rcases ih _ i h with h1 | ⟨e', h1, m, h2, h3⟩
    · cases hf : f e with
      | none => rw [hf] at h1; exact .inl h1
      | some m =>
        rw [hf] at h1
        simp only [Nat.testBit_or, Bool.or_eq_true] at h1
        rcases h1 with h1 | h1
        · exact .inl h1
        · exact .inr ⟨e, by simp, m, hf, h1⟩
    · exact .inr ⟨e', by simp [h1], m, h2, h3⟩
end Go.Det
/- What goes before what in a region. -/
set_option linter.unusedVariables false
set_option linter.unusedSimpArgs false
namespace Go.Det
variable {P : Program}

def befOf (acc : Array Nat) (o : Oper) : Nat := o.after.foldl (fun s e => if Region.binds .any e then s ||| 2 ^ e.on ||| acc.getD e.on 0 else s) 0
theorem befOf_bit {acc : Array Nat} {o : Oper} {i : Nat} (h : (befOf acc o).testBit i = true) : ∃ e ∈ o.after.toList, Region.binds .any e = true ∧ (i = e.on ∨ (acc.getD e.on 0).testBit i = true) := by
  unfold befOf at h
  rw [← Array.foldl_toList] at h
  have key : ∀ (l : List Edge) (s : Nat), (l.foldl (fun s e => if Region.binds .any e then s ||| 2 ^ e.on ||| acc.getD e.on 0 else s) s).testBit i = true → s.testBit i = true ∨ ∃ e ∈ l, Region.binds .any e = true ∧ (i = e.on ∨ (acc.getD e.on 0).testBit i = true) := by
    intro l
    induction l with
    | nil => intro s h; exact .inl h
    | cons e l ih =>
      intro s h
      rw [List.foldl_cons] at h
      rcases ih _ h with h1 | ⟨e', h1, h2, h3⟩
      · cases hb : Region.binds .any e with
        | false => rw [hb] at h1; exact .inl (by simpa using h1)
        | true =>
          rw [hb] at h1
          simp only [if_true, Nat.testBit_or, Bool.or_eq_true] at h1
          rcases h1 with (h1 | h1) | h1
          · exact .inl h1
          · refine .inr ⟨e, by simp, hb, .inl ?_⟩
            rw [Nat.testBit_two_pow] at h1
            exact (by simpa using h1 : e.on = i).symm
          · exact .inr ⟨e, by simp, hb, .inr h1⟩
      · exact .inr ⟨e', by simp [h1], h2, h3⟩
  rcases key _ 0 h with h1 | h1
  · simp at h1
  · exact h1
theorem before_eq (ops : Array Oper) : Region.before ops = ops.toList.foldl (fun acc o => acc.push (befOf acc o)) #[] := by
  unfold Region.before
  rw [← Array.foldl_toList]
  rfl
theorem fold_push : ∀ (l : List Oper) (acc : Array Nat), (l.foldl (fun acc o => acc.push (befOf acc o)) acc).size = acc.size + l.length ∧
    (∀ i, i < acc.size → (l.foldl (fun acc o => acc.push (befOf acc o)) acc)[i]? = acc[i]?) ∧
    ∀ i o, l[i]? = some o → ∃ acc' : Array Nat, acc'.size = acc.size + i ∧ (l.foldl (fun acc o => acc.push (befOf acc o)) acc)[acc.size + i]? = some (befOf acc' o) ∧
      ∀ j, j < acc'.size → (l.foldl (fun acc o => acc.push (befOf acc o)) acc)[j]? = acc'[j]? := by
  intro l
  induction l with
  | nil => intro acc; exact ⟨rfl, fun _ _ => rfl, fun i o h => by simp at h⟩
  | cons o l ih =>
    intro acc
    obtain ⟨h1, h2, h3⟩ := ih (acc.push (befOf acc o))
    rw [List.foldl_cons]
    refine ⟨by rw [h1]; simp; omega, fun i hi => ?_, fun i o' ho => ?_⟩
    · rw [h2 i (by simp; omega), Array.getElem?_push]
      simp [Nat.ne_of_lt hi]
    · cases i with
      | zero =>
        simp at ho
        subst ho
        refine ⟨acc, rfl, ?_, fun j hj => ?_⟩
        · rw [Nat.add_zero, h2 _ (by simp)]; simp
        · rw [h2 j (by simp; omega), Array.getElem?_push]; simp [Nat.ne_of_lt hj]
      | succ i =>
        simp at ho
        obtain ⟨acc', g1, g2, g3⟩ := h3 i o' ho
        refine ⟨acc', by rw [g1]; simp; omega, ?_, g3⟩
        rw [show acc.size + (i + 1) = (acc.push (befOf acc o)).size + i by simp; omega]
        exact g2
/-- What comes before an operation: what it names, and what comes before that. -/
theorem before_spec {ops : Array Oper} {j i : Nat} (h : ((Region.before ops).getD j 0).testBit i = true) :
    ∃ o, ops[j]? = some o ∧ ∃ e ∈ o.after.toList, Region.binds .any e = true ∧ (i = e.on ∨ (e.on < j ∧ ((Region.before ops).getD e.on 0).testBit i = true)) := by
  obtain ⟨h1, _, h3⟩ := fold_push ops.toList #[]
  rw [before_eq] at h ⊢
  rcases Nat.lt_or_ge j ops.toList.length with hj | hj
  · obtain ⟨acc', g1, g2, g3⟩ := h3 j ops.toList[j] (List.getElem?_eq_getElem hj)
    simp only [List.size_toArray, List.length_nil, Nat.zero_add] at g1 g2
    rw [Array.getD_eq_getD_getElem?, g2, Option.getD_some] at h
    obtain ⟨e, he, hb, hi⟩ := befOf_bit h
    refine ⟨ops.toList[j], by simp, e, he, hb, hi.imp id fun hi => ?_⟩
    rcases Nat.lt_or_ge e.on acc'.size with hl | hl
    · refine ⟨by omega, ?_⟩
      rw [Array.getD_eq_getD_getElem?, g3 _ hl, ← Array.getD_eq_getD_getElem?]
      exact hi
    · rw [Array.getD_eq_getD_getElem?, Array.getElem?_eq_none hl] at hi
      simp at hi
  · rw [Array.getD_eq_getD_getElem?, Array.getElem?_eq_none (by rw [h1]; simpa using hj)] at h
    simp at h
def Closed (ops : Array Oper) (S : Nat → Prop) : Prop := ∀ j o, S j → ops[j]? = some o → ∀ e ∈ o.after.toList, Region.binds .any e = true → S e.on
theorem before_in {ops : Array Oper} {S : Nat → Prop} (hc : Closed ops S) : ∀ (j i : Nat), ((Region.before ops).getD j 0).testBit i = true → (∀ o, ops[j]? = some o → ∀ e ∈ o.after.toList, Region.binds .any e = true → S e.on) → S i := by
  intro j
  induction j using Nat.strongRecOn with
  | ind j ih =>
    intro i h hr
    obtain ⟨o, ho, e, he, hb, hi⟩ := before_spec h
    rcases hi with rfl | ⟨hlt, hi⟩
    · exact hr o ho e he hb
    · exact ih e.on hlt i hi fun o' ho' => hc e.on o' (hr o ho e he hb) ho'
theorem closed_before {ops : Array Oper} {S : Nat → Prop} (hc : Closed ops S) {j i : Nat} (h : ((Region.before ops).getD j 0).testBit i = true) (hj : S j) : S i :=
  before_in hc j i h fun o ho => hc j o hj ho
end Go.Det
/- A region whose order is drawn: any order comes to what the row's order comes to. -/
set_option linter.unusedVariables false
set_option linter.unusedSimpArgs false
namespace Go.Det
variable {P : Program}

def Ord (ops : Array Oper) (i j : Nat) : Prop := (i < j ∧ ((Region.before ops).getD j 0).testBit i = true) ∨ (j < i ∧ ((Region.before ops).getD i 0).testBit j = true)
/-- The run in the row's order, place by place. -/
structure Can (P : Program) (call : Caller) (ops : Array Oper) (A : Nat → DA) (Hi Ho : Nat → DH) (W : Nat → Bool) (F : Nat → Foot) : Prop where
  want : ∀ k o, ops[k]? = some o → dwanted ops.toList (A k) o = some (W k)
  skip : ∀ k o, ops[k]? = some o → W k = false → A (k + 1) = DA.put (A k) o.dst undef ∧ Ho k = Hi k
  step : ∀ k o, ops[k]? = some o → W k = true → dstep P call (A k) (Hi k) o = some (A (k + 1), Ho k)
  foot : ∀ k o, ops[k]? = some o → W k = true → ∀ x, (footOf (A k) o.op).has x → (F k).has x
  chg : ∀ k b, k < ops.size → b < (Hi k).n → (Ho k).get b ≠ (Hi k).get b → (F k).wr.has b
  hc : ∀ k, k < ops.size → HC (Hi k) (Ho k)
  nextn : ∀ k, k < ops.size → (Hi (k + 1)).n = (Ho k).n
  nextg : ∀ k, k < ops.size → ∀ b, (Hi (k + 1)).get b = (Ho k).get b
  wf : ∀ k, k ≤ ops.size → Wf (Hi k)
  conf : ∀ i j b, i < ops.size → j < ops.size → i ≠ j → (F i).wr.has b → (F j).has b → Ord ops i j
  tmps : ∀ i j x y, i < j → ops[i]? = some x → ops[j]? = some y → (∃ d, (x.dst = some d ∧ (d ∈ y.looksAt ops ∨ y.dst = some d)) ∨ (y.dst = some d ∧ d ∈ x.looksAt ops)) → ((Region.before ops).getD j 0).testBit i = true

section
variable {call : Caller} {ops : Array Oper} {A : Nat → DA} {Hi Ho : Nat → DH} {W : Nat → Bool} {F : Nat → Foot}

def Chg (Hi Ho : Nat → DH) (k b : Nat) : Prop := b < (Hi k).n ∧ (Ho k).get b ≠ (Hi k).get b

theorem Can.n_mono (c : Can P call ops A Hi Ho W F) {i j : Nat} (h : i ≤ j) (hj : j ≤ ops.size) : (Hi i).n ≤ (Hi j).n := by
  induction j with
  | zero => have : i = 0 := by omega
            subst this; exact Nat.le_refl _
  | succ j ih =>
    rcases Nat.lt_or_ge i (j + 1) with hl | hg
    · have h1 := ih (by omega) (by omega)
      have h2 := (c.hc j (by omega)).n1
      rw [c.nextn j (by omega)]
      omega
    · have : i = j + 1 := by omega
      subst this; exact Nat.le_refl _
/-- Nothing turns the block between two places. -/
theorem Can.still (c : Can P call ops A Hi Ho W F) {i j b : Nat} (h : i ≤ j) (hj : j ≤ ops.size) (hb : b < (Hi i).n) (hno : ∀ k, i ≤ k → k < j → ¬ Chg Hi Ho k b) : (Hi j).get b = (Hi i).get b := by
  induction j with
  | zero => have : i = 0 := by omega
            subst this; rfl
  | succ j ih =>
    rcases Nat.lt_or_ge i (j + 1) with hl | hg
    · have h1 := ih (by omega) (by omega) fun k h1 h2 => hno k h1 (by omega)
      rw [c.nextg j (by omega), ← h1]
      have hbj : b < (Hi j).n := Nat.lt_of_lt_of_le hb (c.n_mono (by omega) (by omega))
      have := hno j (by omega) (by omega)
      unfold Chg at this
      by_cases he : (Ho j).get b = (Hi j).get b
      · exact he
      · exact absurd ⟨hbj, he⟩ this
    · have : i = j + 1 := by omega
      subst this; rfl

/-! ### temporaries -/
/-- What a temporary holds when the operations of S have gone, of the first k. -/
def atS (ops : Array Oper) (A : Nat → DA) (S : Nat → Bool) : Nat → DA
  | 0 => A 0
  | k + 1 => fun t => match ops[k]? with
    | some o => if S k = true ∧ o.dst = some t then A (k + 1) t else atS ops A S k t
    | none => atS ops A S k t
theorem atS_skip {S : Nat → Bool} {t : Nat} : ∀ {j i : Nat}, i ≤ j → (∀ k o, i ≤ k → k < j → ops[k]? = some o → ¬ (S k = true ∧ o.dst = some t)) → atS ops A S j t = atS ops A S i t := by
  intro j
  induction j with
  | zero => intro i h _; have : i = 0 := by omega
            subst this; rfl
  | succ j ih =>
    intro i h hno
    rcases Nat.lt_or_ge i (j + 1) with hl | hg
    · rw [← ih (i := i) (by omega) fun k o h1 h2 => hno k o h1 (by omega)]
      show (match ops[j]? with | some o => if S j = true ∧ o.dst = some t then A (j + 1) t else atS ops A S j t | none => atS ops A S j t) = _
      cases ho : ops[j]? with
      | none => rfl
      | some o => simp only; rw [if_neg (hno j o (by omega) (by omega) ho)]
    · have : i = j + 1 := by omega
      subst this; rfl
theorem Can.a_next (c : Can P call ops A Hi Ho W F) {k : Nat} {o : Oper} (ho : ops[k]? = some o) {t : Nat} (ht : o.dst ≠ some t) : A (k + 1) t = A k t := by
  have hp : ∀ v, DA.put (A k) o.dst v t = A k t := by
    intro v
    cases hd : o.dst with
    | none => rfl
    | some d =>
      have : t ≠ d := fun h => ht (by rw [hd, h])
      show sel (Nat.beq t d) v (A k t) = _
      rw [PM.beq_false this]; rfl
  cases hw : W k with
  | false => rw [(c.skip k o ho hw).1]; exact hp _
  | true =>
    have h1 := c.step k o ho hw
    unfold dstep at h1
    obtain ⟨r, _, h2⟩ := ob_eq_some.1 h1
    cases r with
    | val v h3 => rw [(dgo_val h2).1]; exact hp _
    | skip h3 => rw [(dgo_skip h2).1]; exact hp _
    | enter f args h3 => obtain ⟨v, _, e⟩ := dgo_enter h2; rw [e]; exact hp _
/-- Where every writer before is in S, it is as in the row's order. -/
theorem Can.atS_eq (c : Can P call ops A Hi Ho W F) {S : Nat → Bool} {t : Nat} : ∀ {k : Nat}, k ≤ ops.size → (∀ j o, j < k → ops[j]? = some o → o.dst = some t → S j = true) → atS ops A S k t = A k t := by
  intro k
  induction k with
  | zero => intro _ _; rfl
  | succ k ih =>
    intro hk h
    have hk' : k < ops.size := by omega
    show (match ops[k]? with | some o => if S k = true ∧ o.dst = some t then A (k + 1) t else atS ops A S k t | none => atS ops A S k t) = _
    have ho : ops[k]? = some ops[k] := Array.getElem?_eq_getElem hk'
    rw [ho]
    simp only
    by_cases hd : ops[k].dst = some t
    · rw [if_pos ⟨h k _ (by omega) ho hd, hd⟩]
    · rw [if_neg (fun x => hd x.2), c.a_next ho hd]
      exact ih (by omega) fun j o hj => h j o (by omega)
/-- A ready operation sees what it sees in the row's order. -/
theorem Can.seen (c : Can P call ops A Hi Ho W F) {S : Nat → Bool} (hcl : Closed ops (fun k => S k = true)) {k : Nat} {o : Oper} (ho : ops[k]? = some o) (hk : S k = false)
    (hr : ∀ e ∈ o.after.toList, Region.binds .any e = true → S e.on = true) {t : Nat} (ht : t ∈ o.looksAt ops) : atS ops A S ops.size t = A k t := by
  have hlt : k < ops.size := (Array.getElem?_eq_some_iff.1 ho).1
  rw [atS_skip (i := k) (by omega) ?_, c.atS_eq (by omega) ?_]
  · intro j o' hj ho' hd
    exact before_in hcl k j (c.tmps j k o' o hj ho' ho ⟨t, .inl ⟨hd, .inl ht⟩⟩) fun o2 ho2 e he hb => by rw [ho] at ho2; cases ho2; exact hr e he hb
  · intro j o' hj hj2 ho' ⟨hs, hd⟩
    rcases Nat.lt_or_ge k j with h1 | h1
    · have := closed_before hcl (c.tmps k j o o' h1 ho ho' ⟨t, .inr ⟨hd, ht⟩⟩) hs
      rw [hk] at this; cases this
    · have : j = k := by omega
      subst this; rw [hk] at hs; cases hs
def addS (S : Nat → Bool) (k : Nat) : Nat → Bool := fun j => if j = k then true else S j
/-- One more has gone. -/
theorem Can.atS_add (c : Can P call ops A Hi Ho W F) {S : Nat → Bool} (hcl : Closed ops (fun k => S k = true)) {k : Nat} {o : Oper} (ho : ops[k]? = some o) (hk : S k = false) (t : Nat) :
    atS ops A (addS S k) ops.size t = if o.dst = some t then A (k + 1) t else atS ops A S ops.size t := by
  have hlt : k < ops.size := (Array.getElem?_eq_some_iff.1 ho).1
  have same : ∀ i, (∀ j o', j < i → ops[j]? = some o' → o'.dst = some t → j ≠ k) → atS ops A (addS S k) i t = atS ops A S i t := by
    intro i
    induction i with
    | zero => intro _; rfl
    | succ i ih =>
      intro h
      have h1 := ih fun j o' hj => h j o' (by omega)
      show (match ops[i]? with | some o => if addS S k i = true ∧ o.dst = some t then A (i + 1) t else atS ops A (addS S k) i t | none => atS ops A (addS S k) i t) = (match ops[i]? with | some o => if S i = true ∧ o.dst = some t then A (i + 1) t else atS ops A S i t | none => atS ops A S i t)
      rw [h1]
      cases hoi : ops[i]? with
      | none => rfl
      | some oi =>
        simp only
        by_cases hd : oi.dst = some t
        · have := h i oi (by omega) hoi hd
          simp [addS, this]
        · simp [hd]
  by_cases hd : o.dst = some t
  · rw [if_pos hd, atS_skip (i := k + 1) (by omega) ?_]
    · show (match ops[k]? with | some o => if addS S k k = true ∧ o.dst = some t then A (k + 1) t else atS ops A (addS S k) k t | none => atS ops A (addS S k) k t) = _
      rw [ho]
      simp [addS, hd]
    · intro j o' hj hj2 ho' ⟨hs, hd'⟩
      have hjk : j ≠ k := by omega
      simp only [addS, if_neg hjk] at hs
      have := closed_before hcl (c.tmps k j o o' (by omega) ho ho' ⟨t, .inl ⟨hd, .inr hd'⟩⟩) hs
      rw [hk] at this; cases this
  · rw [if_neg hd]
    exact same _ fun j o' _ ho' hd' hjk => by subst hjk; rw [ho] at ho'; cases ho'; exact hd hd'
end
end Go.Det
/- Any order: what stays true, operation by operation. -/
set_option linter.unusedVariables false
set_option linter.unusedSimpArgs false
namespace Go.Det
variable {P : Program}

theorem dstep_congr {call : Caller} {a a' a1 : DA} {h h1 : DH} {o : Oper} (he : dop P a h o.op = dop P a' h o.op) (hd : dstep P call a h o = some (a1, h1)) :
    ∃ v, a1 = DA.put a o.dst v ∧ dstep P call a' h o = some (DA.put a' o.dst v, h1) := by
  unfold dstep at hd ⊢
  rw [← he]
  obtain ⟨r, h2, h3⟩ := ob_eq_some.1 hd
  rw [h2, ob_some]
  cases r with
  | val v h4 => obtain ⟨e1, rfl⟩ := dgo_val h3; exact ⟨v, e1, rfl⟩
  | skip h4 => obtain ⟨e1, rfl⟩ := dgo_skip h3; exact ⟨undef, e1, rfl⟩
  | enter f args h4 =>
    obtain ⟨v, h5, e1⟩ := dgo_enter h3
    refine ⟨v, e1, ?_⟩
    show (ob (call f args h4) fun r => some (DA.put a' o.dst r.1, r.2)) = _
    rw [h5]; rfl
theorem put_at {a : DA} {t : Nat} {v : Value} : DA.put a (some t) v t = v := by
  show sel (Nat.beq t t) v (a t) = v
  rw [show Nat.beq t t = true from Nat.beq_refl t]; rfl
theorem put_off {a : DA} {d : Option Nat} {t : Nat} {v : Value} (h : d ≠ some t) : DA.put a d v t = a t := by
  cases d with
  | none => rfl
  | some d =>
    have : t ≠ d := fun e => h (by rw [e])
    show sel (Nat.beq t d) v (a t) = _
    rw [PM.beq_false this]; rfl

section
variable {call : Caller} {ops : Array Oper} {A : Nat → DA} {Hi Ho : Nat → DH} {W : Nat → Bool} {F : Nat → Foot}

structure Inv (P : Program) (ops : Array Oper) (A : Nat → DA) (Hi Ho : Nat → DH) (ρ0 : Rho) (C0 : Con) (w0 : World) (sz : Nat) (df : List Deferred) (S : Nat → Bool) (ρ : Rho) (C : Con) (w : World) (act : Act) : Prop where
  st : St P ρ C w
  ar : AR ρ (atS ops A S ops.size) act
  dom : ∀ b, ρ b ≠ none ↔ (ρ0 b ≠ none ∨ ∃ k, S k = true ∧ k < ops.size ∧ (Hi k).n ≤ b ∧ b < (Ho k).n)
  con : ∀ b, ρ b ≠ none → b < (Hi ops.size).n → ∃ m, m ≤ ops.size ∧ b < (Hi m).n ∧ C b = (Hi m).get b ∧ ∀ j, j < ops.size → Chg Hi Ho j b → (S j = true ↔ j < m)
  far : ∀ b, (Hi ops.size).n ≤ b → C b = C0 b
  cov : ∀ j b, j < ops.size → S j = true → Chg Hi Ho j b → ρ b ≠ none
  closed : Closed ops (fun k => S k = true)
  ext : ρ0.le ρ
  size : w0.heap.size ≤ w.heap.size
  rest : w.os = w0.os ∧ w.tape = w0.tape ∧ w.output = w0.output
  img : ∀ b e k, ρ b = some e → C b = some k → own k → e.mb < w0.heap.size → ∃ b0 e0 k0, ρ0 b0 = some e0 ∧ C0 b0 = some k0 ∧ own k0 ∧ e0.mb = e.mb
  frame : ∀ m, m < w0.heap.size → (∀ b e k, ρ0 b = some e → C0 b = some k → own k → e.mb ≠ m) → w.heap[m]? = w0.heap[m]?
  tm : act.tmps.size = sz
  dfs : act.defers = df

theorem addS_self {S : Nat → Bool} {k : Nat} : addS S k k = true := if_pos rfl
theorem addS_ne {S : Nat → Bool} {k j : Nat} (h : j ≠ k) : addS S k j = S j := if_neg h
theorem closed_add {S : Nat → Bool} (hcl : Closed ops (fun k => S k = true)) {k : Nat} {o : Oper} (ho : ops[k]? = some o)
    (hr : ∀ e ∈ o.after.toList, Region.binds .any e = true → S e.on = true) : Closed ops (fun j => addS S k j = true) := by
  intro j oj hj hoj e he hb
  have : S e.on = true := by
    by_cases hjk : j = k
    · subst hjk; rw [ho] at hoj; cases hoj; exact hr e he hb
    · exact hcl j oj (by simpa [addS_ne hjk] using hj) hoj e he hb
  by_cases hek : e.on = k
  · show addS S k e.on = true; rw [hek]; exact addS_self
  · show addS S k e.on = true; rw [addS_ne hek]; exact this

theorem Inv.step (hcall : CallOk P call) (c : Can P call ops A Hi Ho W F) {ρ0 : Rho} {C0 : Con} {w0 : World} {sz : Nat} {df : List Deferred} {S : Nat → Bool} {ρ : Rho} {C : Con} {w : World} {act : Act}
    (hfree : Free ρ0 (Hi 0).n (Hi ops.size).n) (hdst : ∀ o, o ∈ ops.toList → ∀ t, o.dst = some t → t < sz)
    (I : Inv P ops A Hi Ho ρ0 C0 w0 sz df S ρ C w act) {k : Nat} {o : Oper} (ho : ops[k]? = some o) (hk : S k = false) (hr : ∀ e ∈ o.after.toList, Region.binds .any e = true → S e.on = true)
    {K : Act → World → Prop} {Q : Exit → Act → World → Prop} (hK : ∀ ρ' C' w' act', Inv P ops A Hi Ho ρ0 C0 w0 sz df (addS S k) ρ' C' w' act' → K act' w') : wpOp P ops Q k K act w := by
  have hlt : k < ops.size := (Array.getElem?_eq_some_iff.1 ho).1
  have hsee : ∀ t, t ∈ o.looksAt ops → atS ops A S ops.size t = A k t := fun t ht => c.seen I.closed ho hk hr ht
  have hwant := c.want k o ho
  rw [← dwanted_congr hsee] at hwant
  have hw := wanted_eq I.ar hwant
  have hdo : ∀ t, o.dst = some t → t < act.tmps.size := fun t ht => by rw [I.tm]; exact hdst o (by have := Array.mem_of_getElem? ho; simpa using this) t ht
  have hcl' := closed_add I.closed ho hr
  have hjk : ∀ {j}, S j = true → j ≠ k := fun hj e => by subst e; rw [hk] at hj; cases hj
  have hadd : ∀ {j}, j ≠ k → (addS S k j = true ↔ S j = true) := fun h => by rw [addS_ne h]
  have hNk : (Hi k).n ≤ (Hi ops.size).n := c.n_mono (by omega) (Nat.le_refl _)
  have hNk1 : (Ho k).n ≤ (Hi ops.size).n := by rw [← c.nextn k hlt]; exact c.n_mono (by omega) (Nat.le_refl _)
  have h0k : (Hi 0).n ≤ (Hi k).n := c.n_mono (by omega) (by omega)
  unfold wpOp
  rw [ho]
  simp only [hw]
  cases hW : W k with
  | false =>
    simp only [Bool.false_eq_true, if_false]
    obtain ⟨e1, e2⟩ := c.skip k o ho hW
    have hnc : ∀ b, ¬ Chg Hi Ho k b := fun b h => h.2 (by rw [e2])
    refine hK ρ C w _ ⟨I.st, ?_, ?_, ?_, I.far, ?_, hcl', I.ext, I.size, I.rest, I.img, I.frame, by rw [Act.size_put]; exact I.tm, by rw [Act.defers_put]; exact I.dfs⟩
    · have := I.ar.put o.dst (undef_vr ρ) hdo
      intro t
      have h1 := this t
      rw [c.atS_add I.closed ho hk t]
      by_cases hd : o.dst = some t
      · rw [if_pos hd, e1, hd, put_at]
        rw [hd, put_at] at h1
        exact h1
      · rw [if_neg hd]
        rw [put_off hd] at h1
        exact h1
    · intro b
      rw [I.dom b]
      constructor
      · rintro (h | ⟨j, h1, h2, h3⟩)
        · exact .inl h
        · exact .inr ⟨j, (hadd (hjk h1)).2 h1, h2, h3⟩
      · rintro (h | ⟨j, h1, h2, h3, h4⟩)
        · exact .inl h
        · by_cases hj : j = k
          · subst hj; rw [e2] at h4; omega
          · exact .inr ⟨j, (hadd hj).1 h1, h2, h3, h4⟩
    · intro b hb hN
      obtain ⟨m, h1, h2, h3, h4⟩ := I.con b hb hN
      refine ⟨m, h1, h2, h3, fun j hj hc => ?_⟩
      have : j ≠ k := fun e => hnc b (e ▸ hc)
      rw [hadd this]; exact h4 j hj hc
    · intro j b hj hs hc
      have : j ≠ k := fun e => hnc b (e ▸ hc)
      exact I.cov j b hj ((hadd this).1 hs) hc
  | true =>
    simp only [if_true]
    left
    have hdst0 := c.step k o ho hW
    obtain ⟨hdop, hfoot⟩ := dop_congr (P := P) (same_of hsee) (Hi k)
    obtain ⟨v, hv1, hv2⟩ := dstep_congr hdop.symm hdst0
    have hfreek : Free ρ (Hi k).n (Ho k).n := by
      intro b h1 h2
      cases hb : ρ b with
      | none => rfl
      | some e =>
        exfalso
        rcases (I.dom b).1 (by rw [hb]; simp) with h3 | ⟨j, h3, h4, h5, h6⟩
        · exact h3 (hfree b (by omega) (by omega))
        · have hj := hjk h3
          rcases Nat.lt_or_ge j k with hl | hg
          · have := c.n_mono (i := j + 1) (j := k) hl (by omega)
            rw [c.nextn j h4] at this; omega
          · have := c.n_mono (i := k + 1) (j := j) (by omega) (by omega)
            rw [c.nextn k hlt] at this; omega
    -- blocks that are touched are as in the row's order
    have hgood : ∀ x, (F k).has x → ρ x ≠ none → x < (Hi k).n → C x = (Hi k).get x := by
      intro x hx hrx hxn
      obtain ⟨m, h1, h2, h3, h4⟩ := I.con x hrx (by omega)
      rw [h3]
      rcases Nat.lt_or_ge m k with hl | hg
      · refine (c.still (by omega) (by omega) h2 fun j h5 h6 hc => ?_).symm
        have hns : ¬ S j = true := fun hs => by have := (h4 j (by omega) hc).1 hs; omega
        rcases c.conf j k x (by omega) hlt (by omega) (c.chg j x (by omega) hc.1 hc.2) hx with ⟨_, ho1⟩ | ⟨ho1, _⟩
        · exact hns (before_in I.closed k j ho1 fun o2 ho2 e he hb => by rw [ho] at ho2; cases ho2; exact hr e he hb)
        · omega
      · refine c.still hg h1 hxn fun j h5 h6 hc => ?_
        have hs := (h4 j (by omega) hc).2 h6
        have hj := hjk hs
        rcases c.conf j k x (by omega) hlt hj (c.chg j x (by omega) hc.1 hc.2) hx with ⟨ho1, _⟩ | ⟨_, ho1⟩
        · omega
        · have := closed_before I.closed ho1 hs
          rw [hk] at this; cases this
    refine dstep_sim hcall hv2 I.st I.ar (c.wf k (by omega)) hfreek (fun x hx => hgood x (c.foot k o ho hW x (hfoot ▸ hx))) ?_
    intro v2 v' ρ' C' w' ev hvr s1 st1
    have hA : ∀ t, o.dst = some t → A (k + 1) t = v2 := fun t ht => by
      rw [hv1, ht, put_at]
      have := congrFun ev t
      rwa [ht, put_at, put_at] at this
    have hord : ∀ j b, j < ops.size → j ≠ k → Chg Hi Ho j b → (F k).has b → (S j = true ↔ j < k) := by
      intro j b hj hne hc hx
      rcases c.conf j k b hj hlt hne (c.chg j b hj hc.1 hc.2) hx with ⟨h1, h2⟩ | ⟨h1, h2⟩
      · exact ⟨fun _ => h1, fun _ => before_in I.closed k j h2 fun o2 ho2 e he hb => by rw [ho] at ho2; cases ho2; exact hr e he hb⟩
      · exact ⟨(fun hs => by have := closed_before I.closed h2 hs; rw [hk] at this; cases this), fun h => by omega⟩
    refine hK ρ' C' w' _ ⟨s1, ?_, ?_, ?_, ?_, ?_, hcl', Rho.le_trans I.ext st1.ext, Nat.le_trans I.size st1.size, ⟨st1.rest.1.trans I.rest.1, st1.rest.2.1.trans I.rest.2.1, st1.rest.2.2.trans I.rest.2.2⟩, ?_, ?_, by rw [Act.size_put]; exact I.tm, by rw [Act.defers_put]; exact I.dfs⟩
    · have := (I.ar.mono st1.ext).put o.dst hvr hdo
      intro t
      have h1 := this t
      rw [c.atS_add I.closed ho hk t]
      by_cases hd : o.dst = some t
      · rw [if_pos hd, hA t hd]
        rw [hd, put_at] at h1
        rw [hd]; exact h1
      · rw [if_neg hd]
        rw [put_off hd] at h1
        exact h1
    · intro b
      constructor
      · intro hb
        cases hρ : ρ b with
        | some e =>
          rcases (I.dom b).1 (by rw [hρ]; simp) with h | ⟨j, h1, h2, h3⟩
          · exact .inl h
          · exact .inr ⟨j, (hadd (hjk h1)).2 h1, h2, h3⟩
        | none =>
          cases hρ' : ρ' b with
          | none => exact absurd hρ' hb
          | some e =>
            have := st1.fresh b e hρ' hρ
            exact .inr ⟨k, addS_self, hlt, this.1, this.2⟩
      · have keep : ρ b ≠ none → ρ' b ≠ none := fun h => by
          cases hρ : ρ b with
          | none => exact absurd hρ h
          | some e => rw [st1.ext b e hρ]; simp
        rintro (h | ⟨j, h1, h2, h3, h4⟩)
        · exact keep ((I.dom b).2 (.inl h))
        · by_cases hj : j = k
          · subst hj; obtain ⟨e, he⟩ := st1.got b h3 h4; rw [he]; simp
          · exact keep ((I.dom b).2 (.inr ⟨j, (hadd hj).1 h1, h2, h3, h4⟩))
    · intro b hb hN
      by_cases hnew : (Hi k).n ≤ b ∧ b < (Ho k).n
      · refine ⟨k + 1, by omega, by rw [c.nextn k hlt]; exact hnew.2, by rw [c.nextg k hlt, st1.new b hnew.1 hnew.2], fun j hj hc => ?_⟩
        by_cases hjk' : j = k
        · subst hjk'; exact ⟨fun _ => by omega, fun _ => addS_self⟩
        · rw [hadd hjk']
          constructor
          · intro hs
            exact absurd (hfreek b hnew.1 hnew.2) (I.cov j b hj hs hc)
          · intro h
            have h1 := hc.1
            have := c.n_mono (i := j) (j := k) (by omega) (by omega)
            omega
      · have hρb : ρ b ≠ none := fun h => by
          cases hρ' : ρ' b with
          | none => exact hb hρ'
          | some e => exact hnew (st1.fresh b e hρ' h)
        obtain ⟨m, h1, h2, h3, h4⟩ := I.con b hρb hN
        by_cases hc : Chg Hi Ho k b
        · refine ⟨k + 1, by omega, by rw [c.nextn k hlt]; have := (c.hc k hlt).n1; have := hc.1; omega, by rw [c.nextg k hlt, st1.mod b hc.1 hρb hc.2], fun j hj hcj => ?_⟩
          by_cases hjk' : j = k
          · subst hjk'; exact ⟨fun _ => by omega, fun _ => addS_self⟩
          · rw [hadd hjk', hord j b hj hjk' hcj (.inr (c.chg k b hlt hc.1 hc.2))]
            omega
        · have hCb : C' b = C b := by
            rcases Nat.lt_or_ge b (Hi k).n with hl | hg
            · refine st1.unm b hl hρb ?_
              by_cases he : (Ho k).get b = (Hi k).get b
              · exact he
              · exact absurd ⟨hl, he⟩ hc
            · exact st1.keep b (by omega)
          refine ⟨m, h1, h2, by rw [hCb]; exact h3, fun j hj hcj => ?_⟩
          have : j ≠ k := fun e => hc (e ▸ hcj)
          rw [hadd this]; exact h4 j hj hcj
    · intro b hN
      rw [st1.keep b (by omega)]; exact I.far b hN
    · intro j b hj hs hc
      have keep : ρ b ≠ none → ρ' b ≠ none := fun h => by
        cases hρ : ρ b with
        | none => exact absurd hρ h
        | some e => rw [st1.ext b e hρ]; simp
      by_cases hjk' : j = k
      · subst hjk'
        refine keep fun h => hc.2 (st1.lost b hc.1 h)
      · exact keep (I.cov j b hj ((hadd hjk').1 hs) hc)
    · intro b e kk h1 h2 h3 h4
      obtain ⟨b1, e1, k1, g1, g2, g3, g4⟩ := st1.img b e kk h1 h2 h3 (Nat.lt_of_lt_of_le h4 I.size)
      obtain ⟨b0, e0, k0, f1, f2, f3, f4⟩ := I.img b1 e1 k1 g1 g2 g3 (by omega)
      exact ⟨b0, e0, k0, f1, f2, f3, by omega⟩
    · intro m hm hno
      rw [st1.frame m (Nat.lt_of_lt_of_le hm I.size) ?_, I.frame m hm hno]
      intro b e kk h1 h2 h3 he
      obtain ⟨b0, e0, k0, f1, f2, f3, f4⟩ := I.img b e kk h1 h2 h3 (by omega)
      exact hno b0 e0 k0 f1 f2 f3 (by omega)
end
end Go.Det
/- Any order, whole. -/
set_option linter.unusedVariables false
set_option linter.unusedSimpArgs false
namespace Go.Det
variable {P : Program}

def left (S : Nat → Bool) : Nat → Nat
  | 0 => 0
  | n + 1 => left S n + (if S n = true then 0 else 1)
theorem left_out {S : Nat → Bool} {k : Nat} : ∀ {n : Nat}, n ≤ k → left (addS S k) n = left S n := by
  intro n
  induction n with
  | zero => intro _; rfl
  | succ n ih => intro h; show left (addS S k) n + _ = left S n + _; rw [ih (by omega), addS_ne (by omega)]
theorem left_in {S : Nat → Bool} {k : Nat} (hk : S k = false) : ∀ {n : Nat}, k < n → left (addS S k) n + 1 = left S n := by
  intro n
  induction n with
  | zero => intro h; omega
  | succ n ih =>
    intro h
    show left (addS S k) n + _ + 1 = left S n + _
    by_cases hn : k = n
    · subst hn; rw [left_out (Nat.le_refl _), addS_self, hk]; simp
    · rw [addS_ne (Ne.symm hn), ← ih (by omega)]; omega
theorem left_zero {S : Nat → Bool} : ∀ {n : Nat}, left S n = 0 → ∀ j, j < n → S j = true := by
  intro n
  induction n with
  | zero => intro _ j h; omega
  | succ n ih =>
    intro h j hj
    have h : left S n + (if S n = true then 0 else 1) = 0 := h
    by_cases hn : j = n
    · subst hn
      by_cases hs : S j = true
      · exact hs
      · rw [if_neg hs] at h; omega
    · exact ih (by omega) j (by omega)
theorem back_spec {ops : Array Oper} (h : backEdges ops = true) {j : Nat} {o : Oper} (ho : ops[j]? = some o) : ∀ e ∈ o.after.toList, Region.binds .any e = true → e.on < j := by
  intro e he hb
  unfold backEdges at h
  rw [List.all_eq_true] at h
  have hj : j < ops.size := (Array.getElem?_eq_some_iff.1 ho).1
  have h1 := h j (List.mem_range.2 hj)
  rw [ho] at h1
  simp only at h1
  rw [List.all_eq_true] at h1
  have h2 := h1 e he
  rw [hb] at h2
  exact blt_eq (by simpa using h2)

section
variable {call : Caller} {ops : Array Oper} {A : Nat → DA} {Hi Ho : Nat → DH} {W : Nat → Bool} {F : Nat → Foot}

theorem any_sim (hcall : CallOk P call) (c : Can P call ops A Hi Ho W F) (hback : backEdges ops = true) {ρ0 : Rho} {C0 : Con} {w0 : World} {sz : Nat} {df : List Deferred}
    (hfree : Free ρ0 (Hi 0).n (Hi ops.size).n) (hdst : ∀ o, o ∈ ops.toList → ∀ t, o.dst = some t → t < sz) {Q : Exit → Act → World → Prop}
    (hQ : ∀ S ρ C w act, (∀ j, j < ops.size → S j = true) → Inv P ops A Hi Ho ρ0 C0 w0 sz df S ρ C w act → Q .normal act w) :
    ∀ (fuel : Nat) (listed : Array Bool) (S : Nat → Bool) (ρ : Rho) (C : Con) (w : World) (act : Act), listed.size = ops.size → (∀ j, listed.getD j false = S j) → left S ops.size ≤ fuel →
      Inv P ops A Hi Ho ρ0 C0 w0 sz df S ρ C w act → wpAny P .any ops Q fuel listed act w := by
  intro fuel
  induction fuel with
  | zero =>
    intro listed S ρ C w act hsz hl hf I
    have hall := left_zero (n := ops.size) (S := S) (by omega)
    refine ⟨?_, hQ S ρ C w act hall I⟩
    cases hrd : Region.ready .any ops listed with
    | nil => rfl
    | cons j t =>
      exfalso
      obtain ⟨h1, o, h2, _⟩ := mem_ready.1 (hrd ▸ List.mem_cons_self : j ∈ Region.ready .any ops listed)
      have hj : j < ops.size := (Array.getElem?_eq_some_iff.1 h2).1
      have h3 := hall j hj
      rw [← hl j] at h3
      have hj' : j < listed.size := by omega
      simp [hj'] at h1 h3
      rw [h1] at h3; cases h3
  | succ fuel ih =>
    intro listed S ρ C w act hsz hl hf I
    constructor
    · intro hrd
      refine hQ S ρ C w act ?_ I
      intro j
      induction j using Nat.strongRecOn with
      | ind j ihj =>
        intro hj
        cases hs : S j with
        | true => rfl
        | false =>
          exfalso
          have ho : ops[j]? = some ops[j] := Array.getElem?_eq_getElem hj
          have : j ∈ Region.ready .any ops listed := by
            rw [mem_ready]
            refine ⟨?_, ops[j], ho, fun e he hb => ?_⟩
            · have h3 := hl j
              rw [hs] at h3
              have hj' : j < listed.size := by omega
              simp [hj'] at h3 ⊢
              exact h3
            · have hlt := back_spec hback ho e (by simpa using he) hb
              rw [hl]; exact ihj e.on hlt (by omega)
          rw [hrd] at this; cases this
    · intro i hi
      obtain ⟨h1, o, h2, h3⟩ := mem_ready.1 hi
      have hilt : i < ops.size := (Array.getElem?_eq_some_iff.1 h2).1
      have hil : i < listed.size := by omega
      have hs : S i = false := by
        rw [← hl i]
        simp [hil] at h1 ⊢
        exact h1
      refine I.step hcall c hfree hdst h2 hs (fun e he hb => by rw [← hl]; exact h3 e (by simpa using he) hb) ?_
      intro ρ' C' w' act' I'
      refine ih _ (addS S i) ρ' C' w' act' (by simpa using hsz) ?_ (by have := left_in hs hilt; omega) I'
      intro j
      by_cases hji : j = i
      · subst hji; rw [addS_self]; simp [hil]
      · rw [addS_ne hji, getD_set_ne false (Ne.symm hji), hl]
theorem Can.at (c : Can P call ops A Hi Ho W F) {b : Nat} (h1 : (Hi 0).n ≤ b) : ∀ {k : Nat}, k ≤ ops.size → b < (Hi k).n → ∃ j, j < k ∧ (Hi j).n ≤ b ∧ b < (Ho j).n := by
  intro k
  induction k with
  | zero => intro _ h; omega
  | succ k ih =>
    intro hk h
    rcases Nat.lt_or_ge b (Hi k).n with hl | hg
    · obtain ⟨j, g1, g2, g3⟩ := ih (by omega) hl
      exact ⟨j, by omega, g2, g3⟩
    · exact ⟨k, by omega, hg, by rw [← c.nextn k (by omega)]; exact h⟩

/-- The region, any order. -/
theorem can_sim (hcall : CallOk P call) (c : Can P call ops A Hi Ho W F) (hm : P.follows .mixedOrders = true) (hback : backEdges ops = true) {ρ : Rho} {C : Con} {w : World} {act : Act} (hs : St P ρ C w) (ha : AR ρ (A 0) act)
    (hag : Agree ρ C (Hi 0)) (hfree : Free ρ (Hi 0).n (Hi ops.size).n) (hdst : ∀ o, o ∈ ops.toList → ∀ t, o.dst = some t → t < act.tmps.size) {Q : Exit → Act → World → Prop} {id : Nat}
    (hQ : ∀ ρ' C' w' act', Stp (Hi 0) (Hi ops.size) ρ C w ρ' C' w' → St P ρ' C' w' → AR ρ' (A ops.size) act' → act'.tmps.size = act.tmps.size → act'.defers = act.defers → Q .normal act' w') : (Code.region id ops true).wp P Q act w := by
  refine wp_region_any hm ?_
  refine any_sim hcall c hback (ρ0 := ρ) (C0 := C) (w0 := w) (sz := act.tmps.size) (df := act.defers) hfree hdst ?_ ops.size _ (fun _ => false) ρ C _ act (by simp) ?_ ?_ ?_
  · intro S ρ' C' w' act' hall I
    have hcon : ∀ b, ρ' b ≠ none → b < (Hi ops.size).n → C' b = (Hi ops.size).get b := by
      intro b hb hN
      obtain ⟨m, h1, h2, h3, h4⟩ := I.con b hb hN
      rw [h3]
      exact (c.still h1 (Nat.le_refl _) h2 fun j h5 h6 hc => by have := (h4 j h6 hc).1 (hall j h6); omega).symm
    have keep : ∀ b, ρ b ≠ none → ρ' b ≠ none := fun b h => by
      cases hρ : ρ b with
      | none => exact absurd hρ h
      | some e => rw [I.ext b e hρ]; simp
    have hmono := c.n_mono (i := 0) (j := ops.size) (by omega) (Nat.le_refl _)
    refine hQ ρ' C' w' act' ⟨I.ext, hmono, ?_, ?_, ?_, ?_, ?_, I.far, ?_, I.size, I.rest, I.img, I.frame⟩ I.st ?_ I.tm I.dfs
    · intro b e he hn
      rcases (I.dom b).1 (by rw [he]; simp) with h | ⟨k, h1, h2, h3, h4⟩
      · exact absurd hn h
      · have g1 := c.n_mono (i := 0) (j := k) (by omega) (by omega)
        have g2 := c.n_mono (i := k + 1) (j := ops.size) (by omega) (Nat.le_refl _)
        rw [c.nextn k h2] at g2
        omega
    · intro b h1 h2
      obtain ⟨j, g1, g2, g3⟩ := c.at h1 (Nat.le_refl _) h2
      cases hb : ρ' b with
      | none => exact absurd hb ((I.dom b).2 (.inr ⟨j, hall j g1, g1, g2, g3⟩))
      | some e => exact ⟨e, rfl⟩
    · intro b h1 h2
      obtain ⟨j, g1, g2, g3⟩ := c.at h1 (Nat.le_refl _) h2
      exact hcon b ((I.dom b).2 (.inr ⟨j, hall j g1, g1, g2, g3⟩)) h2
    · intro b h1 h2 _
      exact hcon b (keep b h2) (by omega)
    · intro b h1 h2 h3
      rw [hcon b (keep b h2) (by omega), h3, hag b h1 h2]
    · intro b h1 h2
      refine c.still (by omega) (Nat.le_refl _) h1 fun j _ h4 hc => ?_
      rcases (I.dom b).1 (I.cov j b h4 (hall j h4) hc) with h | ⟨k, g1, g2, g3, g4⟩
      · exact h h2
      · have := c.n_mono (i := 0) (j := k) (by omega) (by omega); omega
    · have : atS ops A S ops.size = A ops.size := funext fun t => c.atS_eq (Nat.le_refl _) fun j o hj _ _ => hall j hj
      rw [← this]; exact I.ar
  · intro j
    simp [Array.getElem?_replicate]
    split <;> rfl
  · have : ∀ n, left (fun _ => false) n = n := by
      intro n
      induction n with
      | zero => rfl
      | succ n ih => show left (fun _ => false) n + 1 = n + 1; rw [ih]
    rw [this]; exact Nat.le_refl _
  · have h0 : ∀ k, atS ops A (fun _ => false) k = A 0 := fun k => funext fun t => by
      have := atS_skip (ops := ops) (A := A) (S := fun _ => false) (t := t) (j := k) (i := 0) (by omega) fun k o _ _ _ h => by cases h.1
      exact this
    have hst : St P ρ C { w with drawn := w.drawn + 1 } := by
      refine ⟨hs.bound, fun b e he => ?_, hs.sep⟩
      obtain ⟨k, h1, h2⟩ := hs.has b e he
      exact ⟨k, h1, h2.keep (Rho.le_refl ρ) fun _ => rfl⟩
    refine ⟨hst, by rw [h0]; exact ha, ?_, ?_, fun _ _ => rfl, ?_, ?_, Rho.le_refl ρ, Nat.le_refl _, ⟨rfl, rfl, rfl⟩, fun b e k h1 h2 h3 _ => ⟨b, e, k, h1, h2, h3, rfl⟩, fun _ _ _ => rfl, rfl, rfl⟩
    · intro b
      constructor
      · exact fun h => .inl h
      · rintro (h | ⟨k, h1, _⟩)
        · exact h
        · cases h1
    · intro b hb hN
      have hlt : b < (Hi 0).n := by
        rcases Nat.lt_or_ge b (Hi 0).n with h | h
        · exact h
        · exact absurd (hfree b h hN) hb
      refine ⟨0, by omega, hlt, hag b hlt hb, fun j _ _ => ?_⟩
      constructor
      · intro h; cases h
      · intro h; omega
    · intro j b _ h _; cases h
    · intro j o h; cases h
end
end Go.Det
/- The run in the row's order, from the reading of a region. -/
set_option linter.unusedVariables false
set_option linter.unusedSimpArgs false
namespace Go.Det
variable {P : Program}

def Eqv (h h' : DH) : Prop := h.n = h'.n ∧ ∀ b, h.get b = h'.get b
theorem Eqv.refl (h : DH) : Eqv h h := ⟨rfl, fun _ => rfl⟩
theorem Eqv.trans {a b c : DH} (h : Eqv a b) (k : Eqv b c) : Eqv a c := ⟨h.1.trans k.1, fun x => (h.2 x).trans (k.2 x)⟩
theorem Eqv.symm {a b : DH} (h : Eqv a b) : Eqv b a := ⟨h.1.symm, fun x => (h.2 x).symm⟩
theorem Eqv.wf {a b : DH} (h : Eqv a b) (w : Wf a) : Wf b := fun x hx => by rw [← h.2 x]; exact w x (by rw [h.1]; exact hx)
theorem Stp.congr {h h1 k k1 : DH} {ρ ρ' : Rho} {C C' : Con} {w w' : World} (s : Stp h h1 ρ C w ρ' C' w') (e : Eqv h k) (e1 : Eqv h1 k1) : Stp k k1 ρ C w ρ' C' w' := by
  obtain ⟨e, f⟩ := e
  obtain ⟨e1, f1⟩ := e1
  refine ⟨s.ext, by rw [← e, ← e1]; exact s.mono, by rw [← e, ← e1]; exact s.fresh, by rw [← e, ← e1]; exact s.got, ?_, ?_, ?_, by rw [← e1]; exact s.keep, ?_, s.size, s.rest, s.img, s.frame⟩
  · intro b h1 h2; rw [← f1 b]; exact s.new b (by rw [e]; exact h1) (by rw [e1]; exact h2)
  · intro b h1 h2 h3; rw [← f1 b] at h3 ⊢; rw [← f b] at h3; exact s.mod b (by rw [e]; exact h1) h2 h3
  · intro b h1 h2 h3; rw [← f1 b, ← f b] at h3; exact s.unm b (by rw [e]; exact h1) h2 h3
  · intro b h1 h2; rw [← f1 b, ← f b]; exact s.lost b (by rw [e]; exact h1) h2

structure CanL (P : Program) (call : Caller) (ops : List Oper) (l : List Oper) (A : Nat → DA) (Hi Ho : Nat → DH) (W : Nat → Bool) (F : Nat → Foot) : Prop where
  want : ∀ (k : Nat) (o : Oper), l[k]? = some o → dwanted ops (A k) o = some (W k)
  skip : ∀ (k : Nat) (o : Oper), l[k]? = some o → W k = false → A (k + 1) = DA.put (A k) o.dst undef ∧ Ho k = Hi k ∧ F k = ⟨some [], .none⟩
  step : ∀ (k : Nat) (o : Oper), l[k]? = some o → W k = true → dstep P call (A k) (Hi k) o = some (A (k + 1), Ho k)
  kind : ∀ (k : Nat) (o : Oper), l[k]? = some o → W k = true → F k = footOf (A k) o.op ∨ (isCall o.op = true ∧ (F k).rd = none)
  chg : ∀ k b, k < l.length → b < (Hi k).n → (Ho k).get b ≠ (Hi k).get b → (F k).wr.has b
  hc : ∀ k, k < l.length → HC (Hi k) (Ho k)
  next : ∀ k, k < l.length → Eqv (Hi (k + 1)) (Ho k)
  wf : ∀ k, k ≤ l.length → Wf (Hi k)

theorem CanL.nil {call : Caller} {ops : List Oper} {a : DA} {h : DH} (hw : Wf h) : CanL P call ops [] (fun _ => a) (fun _ => h) (fun _ => h) (fun _ => false) (fun _ => ⟨some [], .none⟩) :=
  ⟨fun k o h => by simp at h, fun k o h => by simp at h, fun k o h => by simp at h, fun k o h => by simp at h, fun k b h => by simp at h, fun k h => by simp at h, fun k h => by simp at h, fun _ _ => hw⟩
def scons {α : Type} (x : α) (f : Nat → α) : Nat → α
  | 0 => x
  | k + 1 => f k
theorem CanL.cons {call : Caller} {ops l : List Oper} {A : Nat → DA} {Hi Ho : Nat → DH} {W : Nat → Bool} {F : Nat → Foot} (c : CanL P call ops l A Hi Ho W F) {o : Oper} {a : DA} {h h1 : DH} {b : Bool} {f : Foot}
    (h1w : dwanted ops a o = some b) (h2 : b = false → A 0 = DA.put a o.dst undef ∧ h1 = h ∧ f = ⟨some [], .none⟩) (h3 : b = true → dstep P call a h o = some (A 0, h1)) (h4 : b = true → f = footOf a o.op ∨ (isCall o.op = true ∧ f.rd = none))
    (h5 : ∀ x, x < h.n → h1.get x ≠ h.get x → f.wr.has x) (h6 : HC h h1) (h7 : Eqv (Hi 0) h1) (h8 : Wf h) :
    CanL P call ops (o :: l) (scons a A) (scons h Hi) (scons h1 Ho) (scons b W) (scons f F) := by
  refine ⟨?_, ?_, ?_, ?_, ?_, ?_, ?_, ?_⟩
  · intro k o' ho
    cases k with
    | zero => simp at ho; subst ho; exact h1w
    | succ k => exact c.want k o' (by simpa using ho)
  · intro k o' ho
    cases k with
    | zero => simp at ho; subst ho; exact h2
    | succ k => exact c.skip k o' (by simpa using ho)
  · intro k o' ho
    cases k with
    | zero => simp at ho; subst ho; exact h3
    | succ k => exact c.step k o' (by simpa using ho)
  · intro k o' ho
    cases k with
    | zero => simp at ho; subst ho; exact h4
    | succ k => exact c.kind k o' (by simpa using ho)
  · intro k x hk
    cases k with
    | zero => exact h5 x
    | succ k => exact c.chg k x (by simpa using hk)
  · intro k hk
    cases k with
    | zero => exact h6
    | succ k => exact c.hc k (by simpa using hk)
  · intro k hk
    cases k with
    | zero => exact h7
    | succ k => exact c.next k (by simpa using hk)
  · intro k hk
    cases k with
    | zero => exact h8
    | succ k => exact c.wf k (by simpa using hk)

theorem reset_eqv (h : DH) : Eqv (reset h) h := ⟨rfl, fun _ => rfl⟩
theorem lowered_eqv (h : DH) (n : Nat) : Eqv (lowered h n) h := ⟨rfl, fun _ => rfl⟩
/-- What no call does to the heap is its footprint's. -/
theorem dstep_chg {call : Caller} {a a' : DA} {h h' : DH} {o : Oper} (hd : dstep P call a h o = some (a', h')) (hn : isCall o.op = false) : ∀ x, x < h.n → h'.get x ≠ h.get x → (footOf a o.op).wr.has x := by
  unfold dstep at hd
  obtain ⟨r, h1, h2⟩ := ob_eq_some.1 hd
  have hs := op_hs h1
  cases r with
  | val v h3 => obtain ⟨_, rfl⟩ := dgo_val h2; exact hs.chg
  | skip h3 => obtain ⟨_, rfl⟩ := dgo_skip h2; exact hs.chg
  | enter f args h3 =>
    obtain ⟨c, x, ho, hc⟩ := enter_call h1
    rw [ho] at hn
    simp [isCall, hc] at hn
theorem callFoot_has {h h' : DH} (hc : HC (reset h) h') : ∀ x, x < h.n → h'.get x ≠ h.get x → (callFoot h h').wr.has x := by
  intro x hx hn
  have := hc.lowc x hx hn
  unfold callFoot
  cases hb : Nat.ble h.n h'.low with
  | true => have := ble_eq hb; omega
  | false => exact ⟨hx, hn⟩
theorem callFoot_rd (h h' : DH) : (callFoot h h').rd = none := by unfold callFoot; cases Nat.ble h.n h'.low <;> rfl

theorem canL_F {call : Caller} (hcall : CallOk P call) {ops : List Oper} : ∀ {l : List Oper} {a : DA} {h : DH} {y : DF}, dopsF P call ops l a h = some y → Wf h →
    ∃ A Hi Ho W F, CanL P call ops l A Hi Ho W F ∧ A 0 = a ∧ Eqv (Hi 0) h ∧ A l.length = y.a ∧ Eqv (Hi l.length) y.h ∧ ∀ k, k < l.length → y.fs[k]? = some (F k) := by
  intro l
  induction l with
  | nil =>
    intro a h y hd hw
    have hd : some (⟨a, h, []⟩ : DF) = some y := hd
    injection hd with hd
    subst hd
    exact ⟨_, _, _, _, _, CanL.nil hw, rfl, .refl h, rfl, .refl h, fun k hk => by simp at hk⟩
  | cons o l ih =>
    intro a h y hd hw
    have hd : (ob (dwanted ops a o) fun w => sel w
      (sel (isCall o.op) (ob (dstep P call a (reset h) o) fun x => ob (dopsF P call ops l x.1 (lowered x.2 h.low)) fun y => some (⟨y.a, y.h, callFoot h x.2 :: y.fs⟩ : DF))
        (ob (dstep P call a h o) fun x => ob (dopsF P call ops l x.1 x.2) fun y => some (⟨y.a, y.h, footOf a o.op :: y.fs⟩ : DF)))
      (ob (dopsF P call ops l (DA.put a o.dst undef) h) fun y => some (⟨y.a, y.h, ⟨some [], .none⟩ :: y.fs⟩ : DF))) = some y := hd
    obtain ⟨b, h1, h2⟩ := ob_eq_some.1 hd
    have fin : ∀ {F : Nat → Foot} {f : Foot} {fs : List Foot}, (∀ k, k < l.length → fs[k]? = some (F k)) → ∀ k, k < (o :: l).length → (f :: fs)[k]? = some (scons f F k) := by
      intro F f fs h k hk
      cases k with
      | zero => rfl
      | succ k => simpa [scons] using h k (by simpa using hk)
    cases b with
    | false =>
      obtain ⟨y', h3, h4⟩ := ob_eq_some.1 (h2 : (ob (dopsF P call ops l (DA.put a o.dst undef) h) fun y => some (⟨y.a, y.h, ⟨some [], .none⟩ :: y.fs⟩ : DF)) = some y)
      simp only [Option.some.injEq] at h4
      subst h4
      obtain ⟨A, Hi, Ho, W, F, c, e1, e2, e3, e4, e5⟩ := ih h3 hw
      exact ⟨_, _, _, _, _, c.cons (f := ⟨some [], .none⟩) h1 (fun _ => ⟨e1, rfl, rfl⟩) (fun h => by cases h) (fun h => by cases h) (fun x _ h => absurd rfl h) (.refl h) e2 hw, rfl, .refl h, e3, e4, fin e5⟩
    | true =>
      have h2 : sel (isCall o.op) (ob (dstep P call a (reset h) o) fun x => ob (dopsF P call ops l x.1 (lowered x.2 h.low)) fun y => some (⟨y.a, y.h, callFoot h x.2 :: y.fs⟩ : DF))
        (ob (dstep P call a h o) fun x => ob (dopsF P call ops l x.1 x.2) fun y => some (⟨y.a, y.h, footOf a o.op :: y.fs⟩ : DF)) = some y := h2
      cases hcl : isCall o.op with
      | true =>
        rw [hcl, sel_true] at h2
        obtain ⟨x, h3, h4⟩ := ob_eq_some.1 h2
        obtain ⟨y', h5, h6⟩ := ob_eq_some.1 h4
        simp only [Option.some.injEq] at h6
        subst h6
        have hc := dstep_hc hcall (a' := x.1) (h' := x.2) h3
        have hw2 : Wf (reset h) := (reset_eqv h).symm.wf hw
        obtain ⟨A, Hi, Ho, W, F, c, e1, e2, e3, e4, e5⟩ := ih h5 ((lowered_eqv x.2 h.low).symm.wf (hc.wf hw2))
        exact ⟨_, _, _, _, _, c.cons (h := reset h) (h1 := x.2) (f := callFoot h x.2) h1 (fun h => by cases h) (fun _ => by rw [e1]; exact h3) (fun _ => .inr ⟨hcl, callFoot_rd _ _⟩) (callFoot_has hc) hc (e2.trans (lowered_eqv _ _)) hw2,
          rfl, reset_eqv h, e3, e4, fin e5⟩
      | false =>
        rw [hcl, sel_false] at h2
        obtain ⟨x, h3, h4⟩ := ob_eq_some.1 h2
        obtain ⟨y', h5, h6⟩ := ob_eq_some.1 h4
        simp only [Option.some.injEq] at h6
        subst h6
        have hc := dstep_hc hcall (a' := x.1) (h' := x.2) h3
        obtain ⟨A, Hi, Ho, W, F, c, e1, e2, e3, e4, e5⟩ := ih h5 (hc.wf hw)
        exact ⟨_, _, _, _, _, c.cons (h := h) (h1 := x.2) (f := footOf a o.op) h1 (fun h => by cases h) (fun _ => by rw [e1]; exact h3) (fun _ => .inl rfl) (dstep_chg (a' := x.1) (h' := x.2) h3 hcl) hc e2 hw,
          rfl, .refl h, e3, e4, fin e5⟩
theorem canL_0 {call : Caller} (hcall : CallOk P call) {ops : List Oper} : ∀ {l : List Oper} {a a' : DA} {h h' : DH}, dops P call ops l a h = some (a', h') → Wf h →
    ∃ A Hi Ho W F, CanL P call ops l A Hi Ho W F ∧ A 0 = a ∧ Eqv (Hi 0) h ∧ A l.length = a' ∧ Eqv (Hi l.length) h' := by
  intro l
  induction l with
  | nil =>
    intro a a' h h' hd hw
    have hd : some (a, h) = some (a', h') := hd
    simp only [Option.some.injEq, Prod.mk.injEq] at hd
    obtain ⟨rfl, rfl⟩ := hd
    exact ⟨_, _, _, _, _, CanL.nil hw, rfl, .refl h, rfl, .refl h⟩
  | cons o l ih =>
    intro a a' h h' hd hw
    rw [dops_cons] at hd
    obtain ⟨b, h1, h2⟩ := ob_eq_some.1 hd
    cases b with
    | false =>
      obtain ⟨A, Hi, Ho, W, F, c, e1, e2, e3, e4⟩ := ih h2 hw
      exact ⟨_, _, _, _, _, c.cons (f := ⟨some [], .none⟩) h1 (fun _ => ⟨e1, rfl, rfl⟩) (fun h => by cases h) (fun h => by cases h) (fun x _ h => absurd rfl h) (.refl h) e2 hw, rfl, .refl h, e3, e4⟩
    | true =>
      obtain ⟨x, h3, h4⟩ := ob_eq_some.1 (h2 : (ob (dstep P call a h o) fun x => dops P call ops l x.1 x.2) = some (a', h'))
      have hc := dstep_hc hcall (a' := x.1) (h' := x.2) h3
      obtain ⟨A, Hi, Ho, W, F, c, e1, e2, e3, e4⟩ := ih h4 (hc.wf hw)
      cases hcl : isCall o.op with
      | true => exact ⟨_, _, _, _, _, c.cons (h := h) (h1 := x.2) (f := ⟨none, .ge 0⟩) h1 (fun h => by cases h) (fun _ => by rw [e1]; exact h3) (fun _ => .inr ⟨hcl, rfl⟩) (fun y _ _ => Nat.zero_le y) hc e2 hw, rfl, .refl h, e3, e4⟩
      | false => exact ⟨_, _, _, _, _, c.cons (h := h) (h1 := x.2) (f := footOf a o.op) h1 (fun h => by cases h) (fun _ => by rw [e1]; exact h3) (fun _ => .inl rfl) (dstep_chg (a' := x.1) (h' := x.2) h3 hcl) hc e2 hw, rfl, .refl h, e3, e4⟩
end Go.Det
/- A region of the reading is one of the model's. -/
set_option linter.unusedVariables false
set_option linter.unusedSimpArgs false
namespace Go.Det
variable {P : Program}

theorem foot1_wr {args : List Value} {b : Nat} (h : (foot1 args).wr.has b) : False := by
  match args, h with
  | [_], h => exact h
  | [], h => exact h
  | _ :: _ :: _, h => exact h
theorem foot_write {a : DA} {op : Op} {b : Nat} (h : (footOf a op).wr.has b) : mayWrite op = true := by
  cases op with
  | call c =>
    have h : (footCall a c).wr.has b := h
    cases hc : c.callee with
    | builtin bi =>
      simp only [mayWrite, hc]
      cases bi with
      | len =>
        have hf : footCall a c = foot1 (lmap (dev a) c.args.toList) := by simp only [footCall, hc]; rfl
        rw [hf] at h
        exact (foot1_wr h).elim
      | cap =>
        have hf : footCall a c = foot1 (lmap (dev a) c.args.toList) := by simp only [footCall, hc]; rfl
        rw [hf] at h
        exact (foot1_wr h).elim
      | max => exact (by simpa only [footCall, hc] using h : Wr.has .none b).elim
      | min => exact (by simpa only [footCall, hc] using h : Wr.has .none b).elim
      | _ => rfl
    | _ => simp only [mayWrite, hc]
  | store => rfl
  | mapUpdate => rfl
  | insert => rfl
  | mapEntry => rfl
  | entryStore => rfl
  | _ => exact h.elim
theorem none_has {b : Nat} (h : (⟨some [], .none⟩ : Foot).has b) : False := by
  rcases h with h | h
  · cases h
  · exact h
theorem foot_touch {a : DA} {op : Op} {b : Nat} (h : (footOf a op).has b) : mayTouch op = true := by
  cases op with
  | call c =>
    have h : (footCall a c).has b := h
    cases hc : c.callee with
    | builtin bi =>
      simp only [mayTouch, hc]
      cases bi with
      | max => exact (none_has (by simpa only [footCall, hc] using h)).elim
      | min => exact (none_has (by simpa only [footCall, hc] using h)).elim
      | _ => rfl
    | _ => simp only [mayTouch, hc]
  | load => rfl
  | store => rfl
  | convert => rfl
  | lookup => rfl
  | slice => rfl
  | mapUpdate => rfl
  | insert => rfl
  | mapEntry => rfl
  | entryStore => rfl
  | _ => exact (none_has h).elim
theorem meets_of {r : Option (List Nat)} {w : Wr} {b : Nat} (hw : w.has b) (hr : match r with | none => True | some l => b ∈ l) : meets r w = true := by
  cases w with
  | none => exact hw.elim
  | one c =>
    have hw : b = c := hw
    cases r with
    | none => rfl
    | some l =>
      show (l.any fun x => Nat.beq x c) = true
      rw [List.any_eq_true]
      exact ⟨b, hr, by rw [hw]; exact Nat.beq_refl c⟩
  | ge n =>
    have hw : n ≤ b := hw
    cases r with
    | none => rfl
    | some l =>
      show (l.any fun x => Nat.ble n x) = true
      rw [List.any_eq_true]
      exact ⟨b, hr, Nat.ble_eq_true_of_le hw⟩
  | set S =>
    cases r with
    | none => rfl
    | some l => exact @decide_eq_true _ (Classical.propDecidable _) ⟨b, hr, hw⟩
theorem clash_of {v w : Wr} {b : Nat} (hv : v.has b) (hw : w.has b) : clash v w = true := by
  cases v with
  | none => exact hv.elim
  | one c =>
    have hv : b = c := hv
    cases w with
    | none => exact hw.elim
    | one d => have hw : b = d := hw
               show Nat.beq c d = true
               rw [← hv, ← hw]; exact Nat.beq_refl b
    | ge d => have hw : d ≤ b := hw
              show Nat.ble d c = true
              rw [← hv]; exact Nat.ble_eq_true_of_le hw
    | set S => exact @decide_eq_true _ (Classical.propDecidable _) (by rw [← hv]; exact hw)
  | set S =>
    cases w with
    | none => exact hw.elim
    | one d => have hw : b = d := hw
               exact @decide_eq_true _ (Classical.propDecidable _) (by rw [← hw]; exact hv)
    | ge d => rfl
    | set T => rfl
  | ge c =>
    have hv : c ≤ b := hv
    cases w with
    | none => exact hw.elim
    | one d => have hw : b = d := hw
               show Nat.ble c d = true
               rw [← hw]; exact Nat.ble_eq_true_of_le hv
    | ge d => rfl
    | set T => rfl
theorem either_not {f g : Foot} (h : either f g = true) {b : Nat} : ¬ (f.wr.has b ∧ g.has b) ∧ ¬ (g.wr.has b ∧ f.has b) := by
  unfold either at h
  simp only [Bool.and_eq_true, Bool.not_eq_true'] at h
  obtain ⟨⟨h1, h2⟩, h3⟩ := h
  constructor
  · rintro ⟨hw, hr | hr⟩
    · rw [meets_of hw hr] at h2; cases h2
    · rw [clash_of hw hr] at h3; cases h3
  · rintro ⟨hw, hr | hr⟩
    · rw [meets_of hw hr] at h1; cases h1
    · rw [clash_of hr hw] at h3; cases h3
theorem pairs_mem {ops : Array Oper} {bf : Array Nat} {i j : Nat} {x y : Oper} (h : i < j) (hx : ops[i]? = some x) (hy : ops[j]? = some y) (hb : (bf.getD j 0).testBit i = false)
    (hm : ((mayWrite x.op && mayTouch y.op) || (mayTouch x.op && mayWrite y.op)) = true) : (i, j) ∈ pairs ops bf := by
  have hj : j < ops.size := (Array.getElem?_eq_some_iff.1 hy).1
  unfold pairs
  rw [List.mem_flatMap]
  refine ⟨j, List.mem_range.2 hj, ?_⟩
  rw [List.mem_filterMap]
  refine ⟨i, List.mem_range.2 h, ?_⟩
  rw [hb, hx, hy]
  simp only [hm]
theorem tmps_of {ops : Array Oper} {bf : Array Nat} (h : tmpsOrdered ops bf = true) {i j : Nat} {x y : Oper} (hij : i < j) (hx : ops[i]? = some x) (hy : ops[j]? = some y)
    (hd : ∃ d, (x.dst = some d ∧ (d ∈ y.looksAt ops ∨ y.dst = some d)) ∨ (y.dst = some d ∧ d ∈ x.looksAt ops)) : (bf.getD j 0).testBit i = true := by
  have hj : j < ops.size := (Array.getElem?_eq_some_iff.1 hy).1
  unfold tmpsOrdered at h
  rw [List.all_eq_true] at h
  have h1 := h j (List.mem_range.2 hj)
  rw [List.all_eq_true] at h1
  have h2 := h1 i (List.mem_range.2 hij)
  rw [hx, hy, Bool.or_eq_true] at h2
  rcases h2 with h2 | h2
  · exact h2
  · exfalso
    simp only [Bool.and_eq_true, Bool.not_eq_true', List.any_eq_false] at h2
    obtain ⟨g1, g2⟩ := h2
    obtain ⟨d, ⟨e1, e2⟩ | ⟨e1, e2⟩⟩ := hd
    · refine g1 d (by rw [e1]; simp) ?_
      simp only [namesOf, List.contains_eq_mem, List.mem_append, decide_eq_true_eq]
      rcases e2 with e2 | e2
      · exact .inl e2
      · exact .inr (by rw [e2]; simp)
    · refine g2 d (by rw [e1]; simp) ?_
      simp only [namesOf, List.contains_eq_mem, List.mem_append, decide_eq_true_eq]
      exact .inl e2
theorem call_marks {op : Op} (h : isCall op = true) : mayWrite op = true ∧ mayTouch op = true := by
  cases op with
  | call c =>
    cases hc : c.callee with
    | builtin b => simp [isCall, hc] at h
    | _ => simp only [mayWrite, mayTouch, hc]; exact ⟨trivial, trivial⟩
  | _ => cases h
theorem draw_eq {ops : Array Oper} {ps : List (Nat × Nat)} (h : drawPairs ops = some ps) : backEdges ops = true ∧ tmpsOrdered ops (Region.before ops) = true ∧ ps = pairs ops (Region.before ops) := by
  unfold drawPairs at h
  split at h
  · rename_i h1 h2 h3; injection h with h; exact ⟨h1, h2, h.symm⟩
  · cases h

section
variable {call : Caller} {ops : Array Oper} {A : Nat → DA} {Hi Ho : Nat → DH} {W : Nat → Bool} {F : Nat → Foot}
theorem CanL.can (c : CanL P call ops.toList ops.toList A Hi Ho W F) {ps : List (Nat × Nat)} (hp : drawPairs ops = some ps) (he : ∀ i j, (i, j) ∈ ps → i < ops.size → j < ops.size → either (F i) (F j) = true) :
    Can P call ops A Hi Ho W F := by
  obtain ⟨_, ht, rfl⟩ := draw_eq hp
  have hl : ∀ {k : Nat} {o : Oper}, ops[k]? = some o → ops.toList[k]? = some o := fun h => by simpa using h
  have hn : ops.toList.length = ops.size := by simp
  have wr : ∀ {k o b}, ops[k]? = some o → (F k).wr.has b → mayWrite o.op = true := by
    intro k o b ho hb
    cases hw : W k with
    | false => rw [(c.skip k o (hl ho) hw).2.2] at hb; exact hb.elim
    | true =>
      rcases c.kind k o (hl ho) hw with h | h
      · rw [h] at hb; exact foot_write hb
      · exact (call_marks h.1).1
  have tc : ∀ {k o b}, ops[k]? = some o → (F k).has b → mayTouch o.op = true := by
    intro k o b ho hb
    cases hw : W k with
    | false => rw [(c.skip k o (hl ho) hw).2.2] at hb; exact (none_has hb).elim
    | true =>
      rcases c.kind k o (hl ho) hw with h | h
      · rw [h] at hb; exact foot_touch hb
      · exact (call_marks h.1).2
  refine ⟨fun k o ho => c.want k o (hl ho), fun k o ho hw => ⟨(c.skip k o (hl ho) hw).1, (c.skip k o (hl ho) hw).2.1⟩, fun k o ho => c.step k o (hl ho), ?_, fun k b hk => c.chg k b (by omega), fun k hk => c.hc k (by omega),
    fun k hk => (c.next k (by omega)).1, fun k hk => (c.next k (by omega)).2, fun k hk => c.wf k (by omega), ?_, fun i j x y hij hx hy => tmps_of ht hij hx hy⟩
  · intro k o ho hw x hx
    rcases c.kind k o (hl ho) hw with h | h
    · rw [h]; exact hx
    · left; rw [h.2]; trivial
  · intro i j b hi hj hij h1 h2
    have hx : ops[i]? = some ops[i] := Array.getElem?_eq_getElem hi
    have hy : ops[j]? = some ops[j] := Array.getElem?_eq_getElem hj
    have m1 := wr hx h1
    have m2 := tc hy h2
    rcases Nat.lt_or_ge i j with hlt | hge
    · left
      refine ⟨hlt, ?_⟩
      cases hb : ((Region.before ops).getD j 0).testBit i with
      | true => rfl
      | false =>
        have := pairs_mem hlt hx hy hb (by rw [m1, m2]; rfl)
        exact absurd ⟨h1, h2⟩ (either_not (he i j this hi hj)).1
    · right
      have hlt : j < i := by omega
      refine ⟨hlt, ?_⟩
      cases hb : ((Region.before ops).getD i 0).testBit j with
      | true => rfl
      | false =>
        have := pairs_mem hlt hy hx hb (by rw [m1, m2]; simp)
        exact absurd ⟨h1, h2⟩ (either_not (he j i this hj hi)).2
end
end Go.Det
/- A region of the reading is one of the model's. -/
set_option linter.unusedVariables false
set_option linter.unusedSimpArgs false
namespace Go.Det
variable {P : Program}

theorem Agree.congr {ρ : Rho} {C : Con} {h k : DH} (e : Eqv h k) (a : Agree ρ C h) : Agree ρ C k := fun b hb hr => by rw [← e.2 b]; exact a b (by rw [e.1]; exact hb) hr
theorem dregion_sim {call : Caller} (hcall : CallOk P call) (hm : P.follows .mixedOrders = true) {ops : Array Oper} {draw : Bool} {a a' : DA} {h h' : DH} (hd : dregion P call ops draw a h = some (a', h')) (hw : Wf h)
    {ρ : Rho} {C : Con} {w : World} {act : Act} (hs : St P ρ C w) (ha : AR ρ a act) (hag : Agree ρ C h) (hfree : Free ρ h.n h'.n) (hdst : ∀ o, o ∈ ops.toList → ∀ t, o.dst = some t → t < act.tmps.size)
    {Q : Exit → Act → World → Prop} {id : Nat}
    (hQ : ∀ ρ' C' w' act', Stp h h' ρ C w ρ' C' w' → St P ρ' C' w' → AR ρ' a' act' → act'.tmps.size = act.tmps.size → act'.defers = act.defers → Q .normal act' w') : (Code.region id ops draw).wp P Q act w := by
  have hn : ops.toList.length = ops.size := by simp
  cases draw with
  | false =>
    have hd : dops P call ops.toList ops.toList a h = some (a', h') := hd
    refine wp_region ?_
    rw [List.range_eq_range', ← hn]
    exact dops_sim hcall (i := 0) (by simp) hd hw hs ha hag hfree hdst hQ
  | true =>
    obtain ⟨ps, h1, h2⟩ := ob_eq_some.1 (hd : (ob (drawPairs ops) fun ps => dfree ps P call ops a h) = some (a', h'))
    have hback := (draw_eq h1).1
    have fin : ∀ {A : Nat → DA} {Hi Ho : Nat → DH} {W : Nat → Bool} {F : Nat → Foot}, CanL P call ops.toList ops.toList A Hi Ho W F → A 0 = a → Eqv (Hi 0) h → A ops.size = a' → Eqv (Hi ops.size) h' →
        (∀ i j, (i, j) ∈ ps → i < ops.size → j < ops.size → either (F i) (F j) = true) → (Code.region id ops true).wp P Q act w := by
      intro A Hi Ho W F c e1 e2 e3 e4 he
      refine can_sim hcall (c.can h1 he) hm hback hs (by rw [e1]; exact ha) (hag.congr e2.symm) (by rw [e2.1, e4.1]; exact hfree) hdst ?_
      intro ρ' C' w' act' k1 k2 k3
      exact hQ ρ' C' w' act' (k1.congr e2 e4) k2 (by rw [← e3]; exact k3)
    cases ps with
    | nil =>
      have h2 : dops P call ops.toList ops.toList a h = some (a', h') := h2
      obtain ⟨A, Hi, Ho, W, F, c, e1, e2, e3, e4⟩ := canL_0 hcall h2 hw
      rw [hn] at e3 e4
      exact fin c e1 e2 e3 e4 fun i j h => by cases h
    | cons p ps =>
      obtain ⟨y, h3, h4⟩ := ob_eq_some.1 (h2 : (ob (dopsF P call ops.toList ops.toList a h) fun y => guard' (eitherAll (p :: ps) y.fs) (some (y.a, y.h))) = some (a', h'))
      rw [guard'_eq_some] at h4
      obtain ⟨h5, h6⟩ := h4
      simp only [Option.some.injEq, Prod.mk.injEq] at h6
      obtain ⟨A, Hi, Ho, W, F, c, e1, e2, e3, e4, e5⟩ := canL_F hcall h3 hw
      rw [hn] at e3 e4 e5
      rw [h6.1] at e3
      rw [h6.2] at e4
      refine fin c e1 e2 e3 e4 fun i j hij hi hj => ?_
      unfold eitherAll at h5
      rw [lall_eq, List.all_eq_true] at h5
      have := h5 (i, j) hij
      unfold eitherAt at this
      simp only [lget_eq, e5 i hi, e5 j hj] at this
      exact this
theorem HC.lowered {h h1 : DH} (c : HC (reset h) h1) : HC h (lowered h1 h.low) := by
  have hl : (Go.Det.lowered h1 h.low).low = min h.low h1.low := lesser_eq _ _
  refine ⟨c.n1, by rw [hl]; omega, fun b hb hn => ?_, fun hw => (lowered_eqv h1 h.low).symm.wf (c.wf ((reset_eqv h).symm.wf hw))⟩
  have := c.lowc b hb hn
  rw [hl]; omega
theorem dopsF_hc {call : Caller} (hcall : CallOk P call) {ops : List Oper} : ∀ {l : List Oper} {a : DA} {h : DH} {y : DF}, dopsF P call ops l a h = some y → HC h y.h := by
  intro l
  induction l with
  | nil =>
    intro a h y hd
    have hd : some (⟨a, h, []⟩ : DF) = some y := hd
    injection hd with hd
    subst hd
    exact .refl h
  | cons o l ih =>
    intro a h y hd
    have hd : (ob (dwanted ops a o) fun w => sel w
      (sel (isCall o.op) (ob (dstep P call a (reset h) o) fun x => ob (dopsF P call ops l x.1 (lowered x.2 h.low)) fun y => some (⟨y.a, y.h, callFoot h x.2 :: y.fs⟩ : DF))
        (ob (dstep P call a h o) fun x => ob (dopsF P call ops l x.1 x.2) fun y => some (⟨y.a, y.h, footOf a o.op :: y.fs⟩ : DF)))
      (ob (dopsF P call ops l (DA.put a o.dst undef) h) fun y => some (⟨y.a, y.h, ⟨some [], .none⟩ :: y.fs⟩ : DF))) = some y := hd
    obtain ⟨b, h1, h2⟩ := ob_eq_some.1 hd
    cases b with
    | false =>
      obtain ⟨y', h3, h4⟩ := ob_eq_some.1 (h2 : (ob (dopsF P call ops l (DA.put a o.dst undef) h) fun y => some (⟨y.a, y.h, ⟨some [], .none⟩ :: y.fs⟩ : DF)) = some y)
      simp only [Option.some.injEq] at h4
      subst h4
      exact (ih h3 : HC h y'.h)
    | true =>
      have h2 : sel (isCall o.op) (ob (dstep P call a (reset h) o) fun x => ob (dopsF P call ops l x.1 (lowered x.2 h.low)) fun y => some (⟨y.a, y.h, callFoot h x.2 :: y.fs⟩ : DF))
        (ob (dstep P call a h o) fun x => ob (dopsF P call ops l x.1 x.2) fun y => some (⟨y.a, y.h, footOf a o.op :: y.fs⟩ : DF)) = some y := h2
      cases hcl : isCall o.op with
      | true =>
        rw [hcl, sel_true] at h2
        obtain ⟨x, h3, h4⟩ := ob_eq_some.1 h2
        obtain ⟨y', h5, h6⟩ := ob_eq_some.1 h4
        simp only [Option.some.injEq] at h6
        subst h6
        exact (dstep_hc hcall (a' := x.1) (h' := x.2) h3).lowered.trans (ih h5 : HC (lowered x.2 h.low) y'.h)
      | false =>
        rw [hcl, sel_false] at h2
        obtain ⟨x, h3, h4⟩ := ob_eq_some.1 h2
        obtain ⟨y', h5, h6⟩ := ob_eq_some.1 h4
        simp only [Option.some.injEq] at h6
        subst h6
        exact (dstep_hc hcall (a' := x.1) (h' := x.2) h3).trans (ih h5 : HC x.2 y'.h)
theorem dregion_hc {call : Caller} (hcall : CallOk P call) {ops : Array Oper} {draw : Bool} {a a' : DA} {h h' : DH} (hd : dregion P call ops draw a h = some (a', h')) : HC h h' := by
  cases draw with
  | false => exact dops_hc hcall (hd : dops P call ops.toList ops.toList a h = some (a', h'))
  | true =>
    obtain ⟨ps, h1, h2⟩ := ob_eq_some.1 (hd : (ob (drawPairs ops) fun ps => dfree ps P call ops a h) = some (a', h'))
    cases ps with
    | nil => exact dops_hc hcall (h2 : dops P call ops.toList ops.toList a h = some (a', h'))
    | cons p ps =>
      obtain ⟨y, h3, h4⟩ := ob_eq_some.1 (h2 : (ob (dopsF P call ops.toList ops.toList a h) fun y => guard' (eitherAll (p :: ps) y.fs) (some (y.a, y.h))) = some (a', h'))
      rw [guard'_eq_some] at h4
      obtain ⟨h5, h6⟩ := h4
      simp only [Option.some.injEq, Prod.mk.injEq] at h6
      rw [← h6.2]; exact dopsF_hc hcall h3
end Go.Det
/- Code. -/
set_option linter.unusedVariables false
set_option linter.unusedSimpArgs false
namespace Go.Det
variable {P : Program}

theorem least {p : Nat → Prop} (h : ∃ n, p n) : ∃ n, p n ∧ ∀ m, m < n → ¬ p m := by
  obtain ⟨n, hn⟩ := h
  induction n using Nat.strongRecOn with
  | ind n ih =>
    by_cases hm : ∃ m, m < n ∧ p m
    · obtain ⟨m, h1, h2⟩ := hm; exact ih m h1 h2
    · exact ⟨n, hn, fun m h1 h2 => hm ⟨m, h1, h2⟩⟩
theorem wp_loop_nat {c : Code} {Q : Exit → Act → World → Prop} {a : Act} {w : World} (I : Nat → Act → World → Prop) (h0 : ∃ n, I n a w)
    (round : ∀ n a w, I n a w → c.wp P (Exit.then (fun a' w' => ∃ m, m < n ∧ I m a' w') Q) a w) : (Code.loop c).wp P Q a w := by
  classical
  let μ : Act → World → Nat := fun a w => if h : ∃ n, I n a w then Classical.choose (least h) else 0
  have hμ : ∀ a w, (∃ n, I n a w) → I (μ a w) a w ∧ ∀ m, I m a w → μ a w ≤ m := by
    intro a w h
    have h1 : μ a w = Classical.choose (least h) := dif_pos h
    obtain ⟨g1, g2⟩ := Classical.choose_spec (least h)
    rw [h1]
    exact ⟨g1, fun m hm => by
      rcases Nat.lt_or_ge m (Classical.choose (least h)) with hl | hg
      · exact absurd hm (g2 m hl)
      · exact hg⟩
  refine wp_loop (fun a w => ∃ n, I n a w) μ h0 ?_
  intro a w h
  obtain ⟨g1, g2⟩ := hμ a w h
  refine wp_mono (round _ a w g1) ?_
  intro e a' w' he
  cases e with
  | normal =>
    obtain ⟨m, h1, h2⟩ := (he : ∃ m, m < μ a w ∧ I m a' w')
    exact ⟨⟨m, h2⟩, Nat.lt_of_le_of_lt ((hμ a' w' ⟨m, h2⟩).2 m h2) h1⟩
  | _ => exact he

/-- What code may name: temporaries within the frame. -/
theorem dst_region {n id : Nat} {ops : Array Oper} {d : Bool} (h : dstsBelow n (.region id ops d) = true) : ∀ o, o ∈ ops.toList → ∀ t, o.dst = some t → t < n := by
  intro o ho t ht
  unfold dstsBelow at h
  rw [List.all_eq_true] at h
  have := h o ho
  rw [ht] at this
  exact blt_eq this
/-- How an end of the reading and one of the model go together. -/
def exitOf : DE → Exit
  | .normal => .normal
  | .exit i => .exit i
  | .ret => .ret
theorem andThen_eq {r : Option DR} {k : DA → DH → Option DR} {y : DR} (h : andThen r k = some y) : ∃ x, r = some x ∧ ((x.e = .normal ∧ k x.a x.h = some y) ∨ (x.e ≠ .normal ∧ y = x)) := by
  obtain ⟨x, h1, h2⟩ := ob_eq_some.1 (h : (ob r fun x => sel (isNormal x.e) (k x.a x.h) (some x)) = some y)
  refine ⟨x, h1, ?_⟩
  cases he : x.e with
  | normal => rw [he] at h2; exact .inl ⟨rfl, h2⟩
  | exit i => rw [he] at h2; have h2 : some x = some y := h2; injection h2 with h2; exact .inr ⟨by simp, h2.symm⟩
  | ret => rw [he] at h2; have h2 : some x = some y := h2; injection h2 with h2; exact .inr ⟨by simp, h2.symm⟩
end Go.Det
/- Code of the reading is the model's. -/
set_option linter.unusedVariables false
set_option linter.unusedSimpArgs false
namespace Go.Det
variable {P : Program}

theorem exec_hc {call : Caller} (hcall : CallOk P call) : ∀ {n : Nat} {c : Code} {a : DA} {h : DH} {r : DR}, exec P call n c a h = some r → HC h r.h := by
  intro n
  induction n with
  | zero => intro c a h r hd; cases hd
  | succ n ih =>
    intro c a h r hd
    have hd : execBody P call (exec P call n) c a h = some r := hd
    cases c with
    | skip => have hd : some (⟨.normal, a, h⟩ : DR) = some r := hd
              injection hd with hd; subst hd; exact .refl h
    | label l => have hd : some (⟨.normal, a, h⟩ : DR) = some r := hd
                 injection hd with hd; subst hd; exact .refl h
    | ret => have hd : some (⟨.ret, a, h⟩ : DR) = some r := hd
             injection hd with hd; subst hd; exact .refl h
    | exit i => have hd : some (⟨.exit i, a, h⟩ : DR) = some r := hd
                injection hd with hd; subst hd; exact .refl h
    | region id ops draw =>
      obtain ⟨x, h1, h2⟩ := ob_eq_some.1 (hd : (ob (dregion P call ops draw a h) fun x => some (⟨.normal, x.1, x.2⟩ : DR)) = some r)
      simp only [Option.some.injEq] at h2
      subst h2
      exact dregion_hc hcall (a' := x.1) (h' := x.2) h1
    | seq x y =>
      obtain ⟨u, h1, h2⟩ := andThen_eq (hd : andThen (exec P call n x a h) (fun a h => exec P call n y a h) = some r)
      rcases h2 with ⟨_, h2⟩ | ⟨_, rfl⟩
      · exact (ih h1).trans (ih h2)
      · exact ih h1
    | cond o x y =>
      obtain ⟨b, h1, h2⟩ := ob_eq_some.1 (hd : (ob (asB (dev a o)) fun b => sel b (exec P call n x a h) (exec P call n y a h)) = some r)
      cases b
      · exact ih h2
      · exact ih h2
    | block i x =>
      obtain ⟨u, h1, h2⟩ := ob_eq_some.1 (hd : (ob (exec P call n x a h) fun r => some (⟨leaveBlock i r.e, r.a, r.h⟩ : DR)) = some r)
      simp only [Option.some.injEq] at h2
      subst h2
      exact (ih h1 : HC h u.h)
    | loop x =>
      obtain ⟨u, h1, h2⟩ := andThen_eq (hd : andThen (exec P call n x a h) (fun a h => exec P call n (.loop x) a h) = some r)
      rcases h2 with ⟨_, h2⟩ | ⟨_, rfl⟩
      · exact (ih h1).trans (ih h2)
      · exact ih h1
    | _ => cases hd

theorem exec_sim {call : Caller} (hcall : CallOk P call) (hm : P.follows .mixedOrders = true) {sz : Nat} : ∀ (n : Nat) {c : Code} {a : DA} {h : DH} {r : DR}, exec P call n c a h = some r → dstsBelow sz c = true → Wf h →
    ∀ {ρ : Rho} {C : Con} {w : World} {act : Act}, St P ρ C w → AR ρ a act → Agree ρ C h → Free ρ h.n r.h.n → act.tmps.size = sz →
    ∀ {Q : Exit → Act → World → Prop}, (∀ ρ' C' w' act', Stp h r.h ρ C w ρ' C' w' → St P ρ' C' w' → AR ρ' r.a act' → act'.tmps.size = sz → act'.defers = act.defers → Q (exitOf r.e) act' w') → c.wp P Q act w := by
  intro n
  induction n using Nat.strongRecOn with
  | ind n ih =>
  cases n with
  | zero => intro c a h r hd; cases hd
  | succ n =>
    intro c a h r hd hb hw ρ C w act hs ha hag hf hsz Q hQ
    have hd : execBody P call (exec P call n) c a h = some r := hd
    have ihn := fun {c a h r} => @ih n (Nat.lt_succ_self n) c a h r
    cases c with
    | skip => have hd : some (⟨.normal, a, h⟩ : DR) = some r := hd
              injection hd with hd; subst hd; exact wp_skip (hQ ρ C w act .refl hs ha hsz rfl)
    | label l => have hd : some (⟨.normal, a, h⟩ : DR) = some r := hd
                 injection hd with hd; subst hd; exact wp_label (hQ ρ C w act .refl hs ha hsz rfl)
    | ret => have hd : some (⟨.ret, a, h⟩ : DR) = some r := hd
             injection hd with hd; subst hd; exact wp_ret (hQ ρ C w act .refl hs ha hsz rfl)
    | exit i => have hd : some (⟨.exit i, a, h⟩ : DR) = some r := hd
                injection hd with hd; subst hd; exact wp_exit (hQ ρ C w act .refl hs ha hsz rfl)
    | region id ops draw =>
      obtain ⟨x, h1, h2⟩ := ob_eq_some.1 (hd : (ob (dregion P call ops draw a h) fun x => some (⟨.normal, x.1, x.2⟩ : DR)) = some r)
      simp only [Option.some.injEq] at h2
      subst h2
      exact dregion_sim hcall hm (a' := x.1) (h' := x.2) h1 hw hs ha hag hf (by rw [hsz]; exact dst_region hb) fun ρ' C' w' act' k1 k2 k3 k4 k5 => hQ ρ' C' w' act' k1 k2 k3 (k4.trans hsz) k5
    | seq x y =>
      obtain ⟨u, h1, h2⟩ := andThen_eq (hd : andThen (exec P call n x a h) (fun a h => exec P call n y a h) = some r)
      simp only [dstsBelow, Bool.and_eq_true] at hb
      have hc1 := exec_hc hcall h1
      refine wp_seq ?_
      rcases h2 with ⟨he, h2⟩ | ⟨he, rfl⟩
      · have hc2 := exec_hc hcall h2
        refine ihn h1 hb.1 hw hs ha hag (hf.sub hc2.n1) hsz fun ρ1 C1 w1 act1 k1 k2 k3 k4 k5 => ?_
        rw [he]
        refine ihn h2 hb.2 (hc1.wf hw) k2 k3 (k1.agree hag) (hf.step k1) k4 fun ρ2 C2 w2 act2 g1 g2 g3 g4 g5 => ?_
        exact hQ ρ2 C2 w2 act2 (k1.trans hag g1) g2 g3 g4 (g5.trans k5)
      · refine ihn h1 hb.1 hw hs ha hag hf hsz fun ρ1 C1 w1 act1 k1 k2 k3 k4 k5 => ?_
        have := hQ ρ1 C1 w1 act1 k1 k2 k3 k4 k5
        revert this he
        cases r.e <;> intro he this <;> first | exact absurd rfl he | exact this
    | cond o x y =>
      obtain ⟨b, h1, h2⟩ := ob_eq_some.1 (hd : (ob (asB (dev a o)) fun b => sel b (exec P call n x a h) (exec P call n y a h)) = some r)
      simp only [dstsBelow, Bool.and_eq_true] at hb
      have ho := ha.ev o
      rw [asB_eq h1] at ho
      refine wp_cond ho.bool_inv ?_
      cases b
      · exact ihn h2 hb.2 hw hs ha hag hf hsz hQ
      · exact ihn h2 hb.1 hw hs ha hag hf hsz hQ
    | block i x =>
      obtain ⟨u, h1, h2⟩ := ob_eq_some.1 (hd : (ob (exec P call n x a h) fun r => some (⟨leaveBlock i r.e, r.a, r.h⟩ : DR)) = some r)
      simp only [Option.some.injEq] at h2
      subst h2
      refine wp_block ?_
      refine ihn h1 hb hw hs ha hag hf hsz fun ρ1 C1 w1 act1 k1 k2 k3 k4 k5 => ?_
      have := hQ ρ1 C1 w1 act1 k1 k2 k3 k4 k5
      revert this
      cases u.e with
      | normal => exact id
      | ret => exact id
      | exit j =>
        intro this
        show (if j = i then Q .normal act1 w1 else Q (.exit j) act1 w1)
        have this : Q (exitOf (sel (Nat.beq j i) .normal (.exit j))) act1 w1 := this
        by_cases hji : j = i
        · subst hji
          rw [if_pos rfl]
          rw [show Nat.beq j j = true from Nat.beq_refl j] at this
          exact this
        · rw [if_neg hji]
          rw [PM.beq_false hji] at this
          exact this
    | loop x =>
      have hbx : dstsBelow sz x = true := hb
      refine wp_loop_nat (fun m act1 w1 => m ≤ n + 1 ∧ ∃ a1 h1 ρ1 C1, exec P call m (.loop x) a1 h1 = some r ∧ Wf h1 ∧ Stp h h1 ρ C w ρ1 C1 w1 ∧ St P ρ1 C1 w1 ∧ AR ρ1 a1 act1 ∧ Free ρ1 h1.n r.h.n ∧ act1.tmps.size = sz ∧ act1.defers = act.defers)
        ⟨n + 1, Nat.le_refl _, a, h, ρ, C, hd, hw, .refl, hs, ha, hf, hsz, rfl⟩ ?_
      rintro m act1 w1 ⟨hmn, a1, h1, ρ1, C1, e1, e2, e3, e4, e5, e6, e7, e8⟩
      cases m with
      | zero => cases e1
      | succ m =>
        obtain ⟨u, g1, g2⟩ := andThen_eq (e1 : andThen (exec P call m x a1 h1) (fun a h => exec P call m (.loop x) a h) = some r)
        have hc1 := exec_hc hcall g1
        have hag1 := e3.agree hag
        rcases g2 with ⟨he, g2⟩ | ⟨he, rfl⟩
        · have hc2 := exec_hc hcall g2
          refine ih m (by omega) g1 hbx e2 e4 e5 hag1 (e6.sub hc2.n1) e7 fun ρ2 C2 w2 act2 k1 k2 k3 k4 k5 => ?_
          rw [he]
          exact ⟨m, Nat.lt_succ_self m, by omega, u.a, u.h, ρ2, C2, g2, hc1.wf e2, e3.trans hag k1, k2, k3, e6.step k1, k4, k5.trans e8⟩
        · refine ih m (by omega) g1 hbx e2 e4 e5 hag1 e6 e7 fun ρ2 C2 w2 act2 k1 k2 k3 k4 k5 => ?_
          have := hQ ρ2 C2 w2 act2 (e3.trans hag k1) k2 k3 k4 (k5.trans e8)
          revert this he
          cases r.e <;> intro he this <;> first | exact absurd rfl he | exact this
    | _ => cases hd
end Go.Det
/- Calls of the reading are the model's. -/
set_option linter.unusedVariables false
set_option linter.unusedSimpArgs false
namespace Go.Det
variable {P : Program}

theorem dfunc_eq {f : FuncId} {d : DFn} (h : dfunc P f = some d) : P.funcs[f]? = some d.fn ∧ d.fn.body = some d.body ∧ (d.fn.name == "runtime.NumGoroutine") = false ∧ dstsBelow d.fn.ntmps d.body = true := by
  unfold dfunc at h
  obtain ⟨fn, h1, h2⟩ := ob_eq_some.1 h
  obtain ⟨c, h3, h4⟩ := ob_eq_some.1 h2
  rw [guard'_eq_some] at h4
  obtain ⟨h5, h6⟩ := h4
  simp only [Option.some.injEq] at h6
  subst h6
  obtain ⟨h5, h7⟩ := sel_nand h5
  rw [lget_eq] at h1
  exact ⟨by simpa using h1, h3, h5, h7⟩
theorem dstsBelow_mono {n m : Nat} (h : n ≤ m) : ∀ {c : Code}, dstsBelow n c = true → dstsBelow m c = true := by
  intro c
  induction c with
  | region id ops d =>
    intro hb
    have := dst_region hb
    unfold dstsBelow
    rw [List.all_eq_true]
    intro o ho
    cases ht : o.dst with
    | none => rfl
    | some t => exact Nat.ble_eq_true_of_le (Nat.lt_of_lt_of_le (this o ho t ht) h)
  | seq x y h1 h2 => intro hb; simp only [dstsBelow, Bool.and_eq_true] at hb ⊢; exact ⟨h1 hb.1, h2 hb.2⟩
  | cond o x y h1 h2 => intro hb; simp only [dstsBelow, Bool.and_eq_true] at hb ⊢; exact ⟨h1 hb.1, h2 hb.2⟩
  | block i x h1 => intro hb; exact h1 hb
  | loop x h1 => intro hb; exact h1 hb
  | _ => intro _; rfl
theorem args_ar {ρ : Rho} {args : List Value} {args' : Array Value} (h : LR ρ args args'.toList) (n : Nat) (ds : List Deferred) : AR ρ (argMap args) ⟨args' ++ Array.replicate n undef, ds⟩ := by
  intro t
  show VR ρ (@Option.rec Value (fun _ => Value) undef (fun v => v) (lget args t)) ((args' ++ Array.replicate n undef).getD t undef)
  rw [lget_eq, Array.getD_eq_getD_getElem?]
  have hl : args.length = args'.size := by have := h.1; simpa using this
  cases hv : args[t]? with
  | none =>
    have ht : args'.size ≤ t := by rw [List.getElem?_eq_none_iff] at hv; omega
    rw [Array.getElem?_append_right ht, Array.getElem?_replicate]
    split <;> exact undef_vr ρ
  | some v =>
    have ht : t < args'.size := by have := (List.getElem?_eq_some_iff.1 hv).1; omega
    obtain ⟨v', h1, h2⟩ := h.get hv
    rw [Array.getElem?_append_left ht]
    have : args'[t]? = some v' := by simpa using h1
    rw [this]
    exact h2

def resOf (tmps : Array Value) : ResultVar → Sem Value
  | .tmp t => pure (tmps.getD t undef)
  | .cell p t => do loadVar t (← asAddr (tmps.getD p undef))
theorem results_eq (fn : Func) (tmps : Array Value) : results fn tmps = (do
    let vs ← fn.results.mapM (resOf tmps)
    pure (if h : vs.size = 1 then vs[0] else .tuple vs)) := by
  unfold results
  congr 2
theorem result_run {ρ : Rho} {C : Con} {w : World} {h : DH} (hs : St P ρ C w) (hag : Agree ρ C h) (hw : Wf h) {a : DA} {act : Act} (ha : AR ρ a act) {r : ResultVar} {v : Value} (hd : dresult P a h r = some v) :
    PV P ρ w (resOf act.tmps r) v := by
  cases r with
  | tmp t =>
    have hd : some (a t) = some v := hd
    injection hd with hd
    subst hd
    exact ⟨_, rfl, ha t⟩
  | cell p t =>
    have hd : dload P h t (a p) = some v := hd
    obtain ⟨v', h1, h2⟩ := sim_load hs (ha p) (fun b _ hr hn => have hl := get_lt hw hn; ⟨hl, hag b hl hr⟩) hd
    refine ⟨v', ?_, h2⟩
    unfold dload at hd
    obtain ⟨q, h3, _⟩ := ob_eq_some.1 hd
    have hp := ha p
    rw [asPtr_eq h3] at hp
    obtain ⟨e, _, hv⟩ := hp.ptr_inv
    simp only [resOf, hv] at h1 ⊢
    exact h1
theorem results_run {ρ : Rho} {C : Con} {w : World} {h : DH} (hs : St P ρ C w) (hag : Agree ρ C h) (hw : Wf h) {a : DA} {act : Act} (ha : AR ρ a act) {fn : Func} {v : Value} (hd : dresults P fn a h = some v) :
    PV P ρ w (results fn act.tmps) v := by
  unfold dresults at hd
  obtain ⟨vs, h1, h2⟩ := ob_eq_some.1 hd
  simp only [Option.some.injEq] at h2
  subst h2
  have key : ∀ (l : List ResultVar) (vs : List Value), lmapM (dresult P a h) l = some vs → ∃ vs', (l.mapM (m := Sem) (resOf act.tmps)).run P w = .ok vs' w ∧ LR ρ vs vs' := by
    intro l
    induction l with
    | nil =>
      intro vs h
      have h : some [] = some vs := h
      injection h with h
      subst h
      exact ⟨[], rfl, .nil ρ⟩
    | cons r l ih =>
      intro vs h
      obtain ⟨v, g1, g2⟩ := ob_eq_some.1 (h : (ob (dresult P a _ r) fun b => ob (lmapM (dresult P a _) l) fun bs => some (b :: bs)) = some vs)
      obtain ⟨us, g3, g4⟩ := ob_eq_some.1 g2
      simp only [Option.some.injEq] at g4
      subst g4
      obtain ⟨v', k1, k2⟩ := result_run hs hag hw ha g1
      obtain ⟨us', k3, k4⟩ := ih us g3
      refine ⟨v' :: us', ?_, .cons k2 k4⟩
      rw [List.mapM_cons, Sem.run_bind, k1]
      simp only [Result.andThen_ok, Sem.run_bind, k3, Sem.run_pure]
  obtain ⟨vs', k1, k2⟩ := key _ _ h1
  refine ⟨if h : (⟨vs'⟩ : Array Value).size = 1 then (⟨vs'⟩ : Array Value)[0] else .tuple ⟨vs'⟩, ?_, ?_⟩
  · have hm : (fn.results.mapM (m := Sem) (resOf act.tmps)).run P w = .ok ⟨vs'⟩ w := by
      rw [← Array.toArray_toList (xs := fn.results), List.mapM_toArray]
      show ((List.mapM (resOf act.tmps) fn.results.toList) >>= (Sem.pure ∘ List.toArray)).run P w = _
      rw [Sem.run_bind, k1]
      rfl
    rw [results_eq, Sem.run_bind, hm]
    rfl
  · match vs, vs', k2 with
    | [], vs', k2 => rw [k2.nil']; exact .tup' (.nil ρ)
    | [v], vs', k2 =>
      obtain ⟨v', r', rfl, h3, h4⟩ := k2.uncons
      rw [h4.nil']
      exact h3
    | v :: u :: vs, vs', k2 =>
      have hl := k2.1
      rw [dif_neg]
      · exact .tup' k2
      · simp at hl ⊢; omega

theorem callN_succ (n : Nat) (f : FuncId) (args : List Value) (h : DH) : callN P (n + 1) f args h = ob (dfunc P f) fun d => ob (exec P (callN P n) (Nat.succ n) d.body (argMap args) h) fun r =>
    guard' (ends r.e) (ob (dresults P d.fn r.a r.h) fun v => some (v, r.h)) := rfl
/-- A call of the reading is one of the model's. -/
theorem callN_ok (hm : P.follows .mixedOrders = true) : ∀ n, CallOk P (callN P n) := by
  intro n
  induction n with
  | zero => exact ⟨(fun _ _ _ _ _ h => by cases h), (fun _ _ _ _ _ h => by cases h), (fun _ _ _ _ _ h => by cases h)⟩
  | succ n ih =>
    have inv : ∀ {f args h v h'}, callN P (n + 1) f args h = some (v, h') → ∃ d r, dfunc P f = some d ∧ exec P (callN P n) (n + 1) d.body (argMap args) h = some r ∧ ends r.e = true ∧ dresults P d.fn r.a r.h = some v ∧ r.h = h' := by
      intro f args h v h' hd
      rw [callN_succ] at hd
      obtain ⟨d, h1, h2⟩ := ob_eq_some.1 hd
      obtain ⟨r, h3, h4⟩ := ob_eq_some.1 h2
      rw [guard'_eq_some] at h4
      obtain ⟨h5, h6⟩ := h4
      obtain ⟨u, h7, h8⟩ := ob_eq_some.1 h6
      simp only [Option.some.injEq, Prod.mk.injEq] at h8
      obtain ⟨rfl, h8⟩ := h8
      exact ⟨d, r, h1, h3, h5, h7, h8⟩
    refine ⟨?_, ?_, ?_⟩
    · intro f args h v h' hd
      obtain ⟨d, r, _, h2, _, _, rfl⟩ := inv hd
      exact exec_hc ih h2
    · intro f args h v h' hd
      obtain ⟨d, r, h1, _⟩ := inv hd
      obtain ⟨g1, g2, g3, _⟩ := dfunc_eq h1
      exact ⟨d.fn, d.body, g1, g2, g3⟩
    · intro f args h v h' hd hw ρ C w args' hs hag hf hl
      obtain ⟨d, r, h1, h2, h3, h4, rfl⟩ := inv hd
      obtain ⟨g1, g2, g3, g4⟩ := dfunc_eq h1
      have hc := exec_hc ih h2
      refine calls_of_wp g1 g2 ?_
      have hsz : ((args' ++ Array.replicate (d.fn.ntmps - args'.size) undef).size) = args'.size + (d.fn.ntmps - args'.size) := by simp
      refine exec_sim ih hm (sz := args'.size + (d.fn.ntmps - args'.size)) (n + 1) h2 (dstsBelow_mono (by omega) g4) hw hs (args_ar hl _ _) hag hf hsz ?_
      intro ρ' C' w' act' k1 k2 k3 k4 k5
      obtain ⟨v', q1, q2⟩ := results_run k2 (k1.agree hag) (hc.wf hw) k3 h4
      cases he : r.e with
      | exit j => rw [he] at h3; cases h3
      | normal => exact ⟨k5, v', q1, v', ρ', C', rfl, q2, k2, k1⟩
      | ret => exact ⟨k5, v', q1, v', ρ', C', rfl, q2, k2, k1⟩
end Go.Det

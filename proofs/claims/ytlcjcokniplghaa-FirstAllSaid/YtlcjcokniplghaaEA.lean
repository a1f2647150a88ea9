/- Conditions under which the reading runs: code, regions and calls, without fuel. -/
import Derived.ChangeSlices
import Derived.IntWalk
import Derived.OpenShut
import Derived.Test.YtlcjcokniplghaaDB
import Derived.WideShapes
set_option linter.unusedVariables false
set_option linter.unusedSimpArgs false
namespace Go.Det
variable {P : Program}

/-- A call comes to that, at any fuel that is great enough. -/
def Cl (P : Program) (f : FuncId) (args : List Value) (h : DH) (v : Value) (h' : DH) : Prop := ∃ N, ∀ n, N ≤ n → callN P n f args h = some (v, h')
/-- A call comes to something of which that is true. -/
def CP (P : Program) (f : FuncId) (args : List Value) (h : DH) (Z : Value → DH → Prop) : Prop := ∃ v h', Z v h' ∧ Cl P f args h v h'
theorem CP.mono {f : FuncId} {args : List Value} {h : DH} {Z Z' : Value → DH → Prop} (k : CP P f args h Z) (i : ∀ v h', Z v h' → Z' v h') : CP P f args h Z' := by
  obtain ⟨v, h', a, b⟩ := k; exact ⟨v, h', i v h' a, b⟩
def obP {α : Type} (x : Option α) (f : α → Prop) : Prop := @Option.rec α (fun _ => Prop) False f x
@[simp] theorem obP_none {α : Type} (f : α → Prop) : obP none f = False := rfl
@[simp] theorem obP_some {α : Type} (a : α) (f : α → Prop) : obP (some a) f = f a := rfl
theorem obP_elim {α : Type} {x : Option α} {f : α → Prop} {C : Prop} (h : obP x f) (k : ∀ a, x = some a → f a → C) : C := by
  cases x with
  | none => exact h.elim
  | some a => exact k a rfl h
theorem obP_of {α : Type} {x : Option α} {f : α → Prop} {a : α} (e : x = some a) (h : f a) : obP x f := by subst e; exact h
/-- The same, of a value and a heap. -/
def oh (x : Option (Value × DH)) (f : Value → DH → Prop) : Prop := @Option.rec (Value × DH) (fun _ => Prop) False (fun p => f p.1 p.2) x
@[simp] theorem oh_none (f : Value → DH → Prop) : oh none f = False := rfl
@[simp] theorem oh_some (v : Value) (h : DH) (f : Value → DH → Prop) : oh (some (v, h)) f = f v h := rfl
theorem oh_elim {x : Option (Value × DH)} {f : Value → DH → Prop} {C : Prop} (h : oh x f) (k : ∀ v h', x = some (v, h') → f v h' → C) : C := by
  cases x with
  | none => exact h.elim
  | some a => exact k a.1 a.2 rfl h
/-- A choice of two, by a bool. -/
def bP (b : Bool) (x y : Prop) : Prop := @Bool.rec (fun _ => Prop) y x b
@[simp] theorem bP_true (x y : Prop) : bP true x y = x := rfl
@[simp] theorem bP_false (x y : Prop) : bP false x y = y := rfl
theorem bP_imp {b : Bool} {x y x' y' : Prop} (h : bP b x y) (i : x → x') (j : y → y') : bP b x' y' := by
  cases b
  · exact j h
  · exact i h
theorem bP_elim {b : Bool} {x y C : Prop} (h : bP b x y) (i : b = true → x → C) (j : b = false → y → C) : C := by
  cases b
  · exact j rfl h
  · exact i rfl h

/-! ### Operations -/
def St1 (P : Program) (a : DA) (h : DH) (o : Op) (x : Option Value) : Prop := ∀ v, x = some v → dop P a h o = some (.val v h)
def St2 (P : Program) (a : DA) (h : DH) (o : Op) (x : Option (Value × DH)) : Prop := ∀ v h', x = some (v, h') → dop P a h o = some (.val v h')
def St3 (P : Program) (a : DA) (h : DH) (o : Op) (x : Option DH) : Prop := ∀ h', x = some h' → dop P a h o = some (.skip h')
def St4 (P : Program) (a : DA) (h : DH) (o : Op) (f : FuncId) (args : List Value) : Prop := dop P a h o = some (.enter f args h)

/-- Operations in row order, without feet. -/
def VO (P : Program) (ops : List Oper) (l : List Oper) (a : DA) (h : DH) (Q : DA → DH → Prop) : Prop :=
  ∃ a' h', Q a' h' ∧ ∃ N, ∀ n, N ≤ n → dops P (callN P n) ops l a h = some (a', h')
theorem VO_nil {ops : List Oper} {a : DA} {h : DH} {Q : DA → DH → Prop} (k : Q a h) : VO P ops [] a h Q := ⟨a, h, k, 0, fun _ _ => rfl⟩
theorem dops_cons' (call : Caller) (ops : List Oper) (o : Oper) (l : List Oper) (a : DA) (h : DH) : dops P call ops (o :: l) a h = ob (dwanted ops a o) fun w => sel w (ob (dstep P call a h o) fun x => dops P call ops l x.1 x.2) (dops P call ops l (DA.put a o.dst undef) h) := rfl
theorem VO_go {ops l : List Oper} {o : Oper} {a : DA} {h : DH} {Q : DA → DH → Prop} {a1 : DA} {h1 : DH} (hw : dwanted ops a o = some true) (hd : ∃ N, ∀ n, N ≤ n → dstep P (callN P n) a h o = some (a1, h1)) (k : VO P ops l a1 h1 Q) : VO P ops (o :: l) a h Q := by
  obtain ⟨a', h', q, N, hN⟩ := k
  obtain ⟨M, hM⟩ := hd
  refine ⟨a', h', q, max N M, fun n hn => ?_⟩
  rw [dops_cons', hw, ob_some, sel_true, hM n (by omega), ob_some]
  exact hN n (by omega)
theorem VO_no {ops l : List Oper} {o : Oper} {a : DA} {h : DH} {Q : DA → DH → Prop} (hw : dwanted ops a o = some false) (k : VO P ops l (DA.put a o.dst undef) h Q) : VO P ops (o :: l) a h Q := by
  obtain ⟨a', h', q, N, hN⟩ := k
  refine ⟨a', h', q, N, fun n hn => ?_⟩
  rw [dops_cons', hw, ob_some, sel_false]
  exact hN n hn
theorem dstep_val {call : Caller} {a : DA} {h h1 : DH} {o : Oper} {v : Value} (hd : dop P a h o.op = some (.val v h1)) : dstep P call a h o = some (DA.put a o.dst v, h1) := by
  unfold dstep; rw [hd]; rfl
theorem dstep_skip {call : Caller} {a : DA} {h h1 : DH} {o : Oper} (hd : dop P a h o.op = some (.skip h1)) : dstep P call a h o = some (DA.put a o.dst undef, h1) := by
  unfold dstep; rw [hd]; rfl
theorem dstep_enter {a : DA} {h h1 h2 : DH} {o : Oper} {f : FuncId} {args : List Value} {v : Value} (hd : dop P a h o.op = some (.enter f args h1)) (hc : Cl P f args h1 v h2) : ∃ N, ∀ n, N ≤ n → dstep P (callN P n) a h o = some (DA.put a o.dst v, h2) := by
  obtain ⟨N, hN⟩ := hc
  refine ⟨N, fun n hn => ?_⟩
  unfold dstep; rw [hd, ob_some]; show (ob (callN P n f args h1) _) = _; rw [hN n hn]; rfl

section plain
variable {ops l : List Oper} {a : DA} {h : DH} {Q : DA → DH → Prop} {dst : Option Nat} {o : Op} {ty : TypeId} {pos : String} {after : Array Edge}
theorem VO_1 {x : Option Value} {f : Value → Prop} (s : St1 P a h o x) (H : obP x f) (k : ∀ v, f v → VO P ops l (DA.put a dst v) h Q) : VO P ops (⟨dst, o, ty, pos, after, none⟩ :: l) a h Q :=
  obP_elim H fun v e hv => VO_go (o := ⟨dst, o, ty, pos, after, none⟩) rfl ⟨0, fun _ _ => dstep_val (s v e)⟩ (k v hv)
theorem VO_2 {x : Option (Value × DH)} {f : Value → DH → Prop} (s : St2 P a h o x) (H : oh x f) (k : ∀ v h1, f v h1 → VO P ops l (DA.put a dst v) h1 Q) : VO P ops (⟨dst, o, ty, pos, after, none⟩ :: l) a h Q :=
  oh_elim H fun v h1 e hv => VO_go (o := ⟨dst, o, ty, pos, after, none⟩) rfl ⟨0, fun _ _ => dstep_val (s v h1 e)⟩ (k v h1 hv)
theorem VO_3 {x : Option DH} {f : DH → Prop} (s : St3 P a h o x) (H : obP x f) (k : ∀ h1, f h1 → VO P ops l (DA.put a dst undef) h1 Q) : VO P ops (⟨dst, o, ty, pos, after, none⟩ :: l) a h Q :=
  obP_elim H fun h1 e hv => VO_go (o := ⟨dst, o, ty, pos, after, none⟩) rfl ⟨0, fun _ _ => dstep_skip (s h1 e)⟩ (k h1 hv)
theorem VO_4 {g : FuncId} {args : List Value} {f : Value → DH → Prop} (s : St4 P a h o g args) (H : CP P g args h f) (k : ∀ v h1, f v h1 → VO P ops l (DA.put a dst v) h1 Q) : VO P ops (⟨dst, o, ty, pos, after, none⟩ :: l) a h Q := by
  obtain ⟨v, h1, hv, hc⟩ := H
  exact VO_go (o := ⟨dst, o, ty, pos, after, none⟩) rfl (dstep_enter s hc) (k v h1 hv)
end plain

/-! an operation that goes only where a test ahead says so -/
def g1 (w : Bool) (x : Option Value) (f : Value → Prop) : Prop := bP w (obP x f) (f undef)
def g2 (w : Bool) (x : Option (Value × DH)) (h : DH) (f : Value → DH → Prop) : Prop := bP w (oh x f) (f undef h)
def g3 (w : Bool) (x : Option DH) (h : DH) (f : DH → Prop) : Prop := bP w (obP x f) (f h)
def g4 (P : Program) (w : Bool) (g : FuncId) (args : List Value) (h : DH) (f : Value → DH → Prop) : Prop := bP w (CP P g args h f) (f undef h)
@[simp] theorem g1_true (x : Option Value) (f : Value → Prop) : g1 true x f = obP x f := rfl
@[simp] theorem g1_false (x : Option Value) (f : Value → Prop) : g1 false x f = f undef := rfl
@[simp] theorem g2_true (x : Option (Value × DH)) (h : DH) (f : Value → DH → Prop) : g2 true x h f = oh x f := rfl
@[simp] theorem g2_false (x : Option (Value × DH)) (h : DH) (f : Value → DH → Prop) : g2 false x h f = f undef h := rfl
@[simp] theorem g3_true (x : Option DH) (h : DH) (f : DH → Prop) : g3 true x h f = obP x f := rfl
@[simp] theorem g3_false (x : Option DH) (h : DH) (f : DH → Prop) : g3 false x h f = f h := rfl
@[simp] theorem g4_true (g : FuncId) (args : List Value) (h : DH) (f : Value → DH → Prop) : g4 P true g args h f = CP P g args h f := rfl
@[simp] theorem g4_false (g : FuncId) (args : List Value) (h : DH) (f : Value → DH → Prop) : g4 P false g args h f = f undef h := rfl
theorem dwanted_some {ops : List Oper} {a : DA} {o : Oper} {j t : Nat} {b w : Bool} (hg : o.guard = some (j, b)) (hj : dstOf ops j = some t) (ew : gotB (DA.val a t) b = some w) : dwanted ops a o = some w := by
  unfold dwanted; rw [hg]; show dwantedAt ops a (j, b) = _; unfold dwantedAt; rw [hj]; exact ew
section guarded
variable {ops l : List Oper} {a : DA} {h : DH} {Q : DA → DH → Prop} {dst : Option Nat} {o : Op} {ty : TypeId} {pos : String} {after : Array Edge} {j t : Nat} {b w : Bool}
theorem VO_1g (hj : dstOf ops j = some t) (ew : gotB (DA.val a t) b = some w) {x : Option Value} {f : Value → Prop} (s : St1 P a h o x) (H : g1 w x f) (k : ∀ v, f v → VO P ops l (DA.put a dst v) h Q) : VO P ops (⟨dst, o, ty, pos, after, some (j, b)⟩ :: l) a h Q := by
  have hw := dwanted_some (o := ⟨dst, o, ty, pos, after, some (j, b)⟩) rfl hj ew
  cases w
  · exact VO_no hw (k undef H)
  · exact obP_elim H fun v e hv => VO_go hw ⟨0, fun _ _ => dstep_val (s v e)⟩ (k v hv)
theorem VO_2g (hj : dstOf ops j = some t) (ew : gotB (DA.val a t) b = some w) {x : Option (Value × DH)} {f : Value → DH → Prop} (s : St2 P a h o x) (H : g2 w x h f) (k : ∀ v h1, f v h1 → VO P ops l (DA.put a dst v) h1 Q) : VO P ops (⟨dst, o, ty, pos, after, some (j, b)⟩ :: l) a h Q := by
  have hw := dwanted_some (o := ⟨dst, o, ty, pos, after, some (j, b)⟩) rfl hj ew
  cases w
  · exact VO_no hw (k undef h H)
  · exact oh_elim H fun v h1 e hv => VO_go hw ⟨0, fun _ _ => dstep_val (s v h1 e)⟩ (k v h1 hv)
theorem VO_3g (hj : dstOf ops j = some t) (ew : gotB (DA.val a t) b = some w) {x : Option DH} {f : DH → Prop} (s : St3 P a h o x) (H : g3 w x h f) (k : ∀ h1, f h1 → VO P ops l (DA.put a dst undef) h1 Q) : VO P ops (⟨dst, o, ty, pos, after, some (j, b)⟩ :: l) a h Q := by
  have hw := dwanted_some (o := ⟨dst, o, ty, pos, after, some (j, b)⟩) rfl hj ew
  cases w
  · exact VO_no hw (k h H)
  · exact obP_elim H fun p e hv => VO_go hw ⟨0, fun _ _ => dstep_skip (s p e)⟩ (k p hv)
theorem VO_4g (hj : dstOf ops j = some t) (ew : gotB (DA.val a t) b = some w) {g : FuncId} {args : List Value} {f : Value → DH → Prop} (s : St4 P a h o g args) (H : g4 P w g args h f) (k : ∀ v h1, f v h1 → VO P ops l (DA.put a dst v) h1 Q) : VO P ops (⟨dst, o, ty, pos, after, some (j, b)⟩ :: l) a h Q := by
  have hw := dwanted_some (o := ⟨dst, o, ty, pos, after, some (j, b)⟩) rfl hj ew
  cases w
  · exact VO_no hw (k undef h H)
  · obtain ⟨v, h1, hv, hc⟩ := H
    exact VO_go hw (dstep_enter s hc) (k v h1 hv)
end guarded

/-! ### Operations with feet -/
def VF (P : Program) (ops : List Oper) (l : List Oper) (a : DA) (h : DH) (Q : DA → DH → List Foot → Prop) : Prop :=
  ∃ y : DF, Q y.a y.h y.fs ∧ ∃ N, ∀ n, N ≤ n → dopsF P (callN P n) ops l a h = some y
theorem VF_nil {ops : List Oper} {a : DA} {h : DH} {Q : DA → DH → List Foot → Prop} (k : Q a h []) : VF P ops [] a h Q := ⟨⟨a, h, []⟩, k, 0, fun _ _ => rfl⟩
theorem dopsF_cons' (call : Caller) (ops : List Oper) (o : Oper) (l : List Oper) (a : DA) (h : DH) : dopsF P call ops (o :: l) a h = ob (dwanted ops a o) fun w => sel w
      (sel (isCall o.op) (ob (dstep P call a (reset h) o) fun x => ob (dopsF P call ops l x.1 (lowered x.2 h.low)) fun y => some ⟨y.a, y.h, callFoot h x.2 :: y.fs⟩)
        (ob (dstep P call a h o) fun x => ob (dopsF P call ops l x.1 x.2) fun y => some ⟨y.a, y.h, footOf a o.op :: y.fs⟩))
      (ob (dopsF P call ops l (DA.put a o.dst undef) h) fun y => some ⟨y.a, y.h, ⟨some [], .none⟩ :: y.fs⟩) := rfl
theorem VF_op {ops l : List Oper} {o : Oper} {a : DA} {h : DH} {Q : DA → DH → List Foot → Prop} {a1 : DA} {h1 : DH} (hw : dwanted ops a o = some true) (hi : isCall o.op = false) (hd : ∀ n, dstep P (callN P n) a h o = some (a1, h1)) (k : VF P ops l a1 h1 fun a' h' fs => Q a' h' (footOf a o.op :: fs)) : VF P ops (o :: l) a h Q := by
  obtain ⟨y, q, N, hN⟩ := k
  refine ⟨⟨y.a, y.h, footOf a o.op :: y.fs⟩, q, N, fun n hn => ?_⟩
  rw [dopsF_cons', hw, ob_some, sel_true, hi, sel_false, hd n, ob_some, hN n hn]; rfl
theorem VF_call {ops l : List Oper} {o : Oper} {a : DA} {h : DH} {Q : DA → DH → List Foot → Prop} {a1 : DA} {h1 : DH} (hw : dwanted ops a o = some true) (hi : isCall o.op = true) (hd : ∃ N, ∀ n, N ≤ n → dstep P (callN P n) a (reset h) o = some (a1, h1)) (k : VF P ops l a1 (lowered h1 h.low) fun a' h' fs => Q a' h' (callFoot h h1 :: fs)) : VF P ops (o :: l) a h Q := by
  obtain ⟨y, q, N, hN⟩ := k
  obtain ⟨M, hM⟩ := hd
  refine ⟨⟨y.a, y.h, callFoot h h1 :: y.fs⟩, q, max N M, fun n hn => ?_⟩
  rw [dopsF_cons', hw, ob_some, sel_true, hi, sel_true, hM n (by omega), ob_some, hN n (by omega)]; rfl
theorem VF_no {ops l : List Oper} {o : Oper} {a : DA} {h : DH} {Q : DA → DH → List Foot → Prop} (hw : dwanted ops a o = some false) (k : VF P ops l (DA.put a o.dst undef) h fun a' h' fs => Q a' h' (⟨some [], .none⟩ :: fs)) : VF P ops (o :: l) a h Q := by
  obtain ⟨y, q, N, hN⟩ := k
  refine ⟨⟨y.a, y.h, ⟨some [], .none⟩ :: y.fs⟩, q, N, fun n hn => ?_⟩
  rw [dopsF_cons', hw, ob_some, sel_false, hN n hn]; rfl
section feet
variable {ops l : List Oper} {a : DA} {h : DH} {Q : DA → DH → List Foot → Prop} {dst : Option Nat} {o : Op} {ty : TypeId} {pos : String} {after : Array Edge}
theorem VF_1 (hi : isCall o = false) {x : Option Value} {f : Value → Prop} (s : St1 P a h o x) (H : obP x f) (k : ∀ v, f v → VF P ops l (DA.put a dst v) h fun a' h' fs => Q a' h' (footOf a o :: fs)) : VF P ops (⟨dst, o, ty, pos, after, none⟩ :: l) a h Q :=
  obP_elim H fun v e hv => VF_op (o := ⟨dst, o, ty, pos, after, none⟩) rfl hi (fun _ => dstep_val (s v e)) (k v hv)
theorem VF_2 (hi : isCall o = false) {x : Option (Value × DH)} {f : Value → DH → Prop} (s : St2 P a h o x) (H : oh x f) (k : ∀ v h1, f v h1 → VF P ops l (DA.put a dst v) h1 fun a' h' fs => Q a' h' (footOf a o :: fs)) : VF P ops (⟨dst, o, ty, pos, after, none⟩ :: l) a h Q :=
  oh_elim H fun v h1 e hv => VF_op (o := ⟨dst, o, ty, pos, after, none⟩) rfl hi (fun _ => dstep_val (s v h1 e)) (k v h1 hv)
theorem VF_3 (hi : isCall o = false) {x : Option DH} {f : DH → Prop} (s : St3 P a h o x) (H : obP x f) (k : ∀ h1, f h1 → VF P ops l (DA.put a dst undef) h1 fun a' h' fs => Q a' h' (footOf a o :: fs)) : VF P ops (⟨dst, o, ty, pos, after, none⟩ :: l) a h Q :=
  obP_elim H fun h1 e hv => VF_op (o := ⟨dst, o, ty, pos, after, none⟩) rfl hi (fun _ => dstep_skip (s h1 e)) (k h1 hv)
theorem VF_4 (hi : isCall o = true) {g : FuncId} {args : List Value} {f : Value → DH → Prop} (s : St4 P a (reset h) o g args) (H : CP P g args (reset h) f) (k : ∀ v h1, f v h1 → VF P ops l (DA.put a dst v) (lowered h1 h.low) fun a' h' fs => Q a' h' (callFoot h h1 :: fs)) : VF P ops (⟨dst, o, ty, pos, after, none⟩ :: l) a h Q := by
  obtain ⟨v, h1, hv, hc⟩ := H
  exact VF_call (o := ⟨dst, o, ty, pos, after, none⟩) rfl hi (dstep_enter s hc) (k v h1 hv)
end feet
def g4F (P : Program) (w : Bool) (g : FuncId) (args : List Value) (h : DH) (f : Value → DH → Foot → Prop) : Prop := bP w (CP P g args (reset h) fun v h1 => f v (lowered h1 h.low) (callFoot h h1)) (f undef h ⟨some [], .none⟩)
noncomputable def gF (w : Bool) (f : Foot) : Foot := sel w f ⟨some [], .none⟩
@[simp] theorem gF_true (f : Foot) : gF true f = f := rfl
@[simp] theorem gF_false (f : Foot) : gF false f = ⟨some [], .none⟩ := rfl
section feetguarded
variable {ops l : List Oper} {a : DA} {h : DH} {Q : DA → DH → List Foot → Prop} {dst : Option Nat} {o : Op} {ty : TypeId} {pos : String} {after : Array Edge} {j t : Nat} {b w : Bool}
theorem VF_1g (hi : isCall o = false) (hj : dstOf ops j = some t) (ew : gotB (DA.val a t) b = some w) {x : Option Value} {f : Value → Prop} (s : St1 P a h o x) (H : g1 w x f) (k : ∀ v, f v → VF P ops l (DA.put a dst v) h fun a' h' fs => Q a' h' (gF w (footOf a o) :: fs)) : VF P ops (⟨dst, o, ty, pos, after, some (j, b)⟩ :: l) a h Q := by
  have hw := dwanted_some (o := ⟨dst, o, ty, pos, after, some (j, b)⟩) rfl hj ew
  cases w
  · exact VF_no hw (k undef H)
  · exact obP_elim H fun v e hv => VF_op hw hi (fun _ => dstep_val (s v e)) (k v hv)
theorem VF_2g (hi : isCall o = false) (hj : dstOf ops j = some t) (ew : gotB (DA.val a t) b = some w) {x : Option (Value × DH)} {f : Value → DH → Prop} (s : St2 P a h o x) (H : g2 w x h f) (k : ∀ v h1, f v h1 → VF P ops l (DA.put a dst v) h1 fun a' h' fs => Q a' h' (gF w (footOf a o) :: fs)) : VF P ops (⟨dst, o, ty, pos, after, some (j, b)⟩ :: l) a h Q := by
  have hw := dwanted_some (o := ⟨dst, o, ty, pos, after, some (j, b)⟩) rfl hj ew
  cases w
  · exact VF_no hw (k undef h H)
  · exact oh_elim H fun v h1 e hv => VF_op hw hi (fun _ => dstep_val (s v h1 e)) (k v h1 hv)
theorem VF_4g (hi : isCall o = true) (hj : dstOf ops j = some t) (ew : gotB (DA.val a t) b = some w) {g : FuncId} {args : List Value} {f : Value → DH → Foot → Prop} (s : St4 P a (reset h) o g args) (H : g4F P w g args h f) (k : ∀ v h1 ft, f v h1 ft → VF P ops l (DA.put a dst v) h1 fun a' h' fs => Q a' h' (ft :: fs)) : VF P ops (⟨dst, o, ty, pos, after, some (j, b)⟩ :: l) a h Q := by
  have hw := dwanted_some (o := ⟨dst, o, ty, pos, after, some (j, b)⟩) rfl hj ew
  cases w
  · exact VF_no hw (k undef h _ H)
  · obtain ⟨v, h1, hv, hc⟩ := H
    exact VF_call hw hi (dstep_enter s hc) (k v _ _ hv)
end feetguarded
theorem eA_nil {fs : List Foot} : eitherAll [] fs = true := rfl
theorem eA_cons {fs : List Foot} {p : Nat × Nat} {ps : List (Nat × Nat)} (h : eitherAt fs p = true) (k : eitherAll ps fs = true) : eitherAll (p :: ps) fs = true := by
  show sel (eitherAt fs p) (eitherAll ps fs) false = true
  rw [h]; exact k

/-! ### Code -/
abbrev Post := DE → DA → DH → Prop
def W (P : Program) (c : Code) (a : DA) (h : DH) (Q : Post) : Prop :=
  ∃ r : DR, Q r.e r.a r.h ∧ ∃ N, ∀ n, N ≤ n → ∀ m, N ≤ m → exec P (callN P n) m c a h = some r
inductive Fr where
  | seq (y : Code)
  | block (i : Nat)
  | loop (x : Code)
def kont (P : Program) (K : List Fr) (Z : Post) : Post := @List.rec Fr (fun _ => Post) Z (fun f _ r => match f with
  | .seq y => fun e a h => bP (isNormal e) (W P y a h r) (r e a h)
  | .block i => fun e a h => r (leaveBlock i e) a h
  | .loop x => fun e a h => bP (isNormal e) (W P (.loop x) a h r) (r e a h)) K
theorem exec_succ (call : Caller) (m : Nat) (c : Code) (a : DA) (h : DH) : exec P call (m + 1) c a h = execBody P call (exec P call m) c a h := rfl
theorem W_go {c : Code} {a : DA} {h : DH} {Q : Post} {r : DR} (q : Q r.e r.a r.h) (k : ∃ N, ∀ n, N ≤ n → ∀ m, N ≤ m → execBody P (callN P n) (exec P (callN P n) m) c a h = some r) : W P c a h Q := by
  obtain ⟨N, hN⟩ := k
  refine ⟨r, q, N + 1, fun n hn m hm => ?_⟩
  obtain ⟨m, rfl⟩ : ∃ k, m = k + 1 := ⟨m - 1, by omega⟩
  rw [exec_succ]; exact hN n (by omega) m (by omega)
theorem W_skip {a : DA} {h : DH} {Q : Post} (k : Q .normal a h) : W P .skip a h Q := W_go (r := ⟨.normal, a, h⟩) k ⟨0, fun _ _ _ _ => rfl⟩
theorem W_ret {a : DA} {h : DH} {Q : Post} (k : Q .ret a h) : W P .ret a h Q := W_go (r := ⟨.ret, a, h⟩) k ⟨0, fun _ _ _ _ => rfl⟩
theorem W_exit {i : Nat} {a : DA} {h : DH} {Q : Post} (k : Q (.exit i) a h) : W P (.exit i) a h Q := W_go (r := ⟨.exit i, a, h⟩) k ⟨0, fun _ _ _ _ => rfl⟩
theorem W_cond {o : Operand} {x y : Code} {a : DA} {h : DH} {Q : Post} {b : Bool} (hb : asB (dev a o) = some b) (k : bP b (W P x a h Q) (W P y a h Q)) : W P (.cond o x y) a h Q := by
  cases b
  · obtain ⟨r, q, N, hN⟩ := k
    exact W_go q ⟨N, fun n hn m hm => by show (ob (asB (dev a o)) _) = _; rw [hb]; exact hN n hn m hm⟩
  · obtain ⟨r, q, N, hN⟩ := k
    exact W_go q ⟨N, fun n hn m hm => by show (ob (asB (dev a o)) _) = _; rw [hb]; exact hN n hn m hm⟩
theorem W_seq {x y : Code} {a : DA} {h : DH} {K : List Fr} {Z : Post} (k : W P x a h (kont P (.seq y :: K) Z)) : W P (.seq x y) a h (kont P K Z) := by
  obtain ⟨r, q, N, hN⟩ := k
  cases he : isNormal r.e with
  | false =>
    have q : bP (isNormal r.e) (W P y r.a r.h (kont P K Z)) (kont P K Z r.e r.a r.h) := q
    rw [he] at q
    refine W_go (r := r) q ⟨N, fun n hn m hm => ?_⟩
    show andThen (exec P (callN P n) m x a h) _ = _
    rw [hN n hn m hm]; unfold andThen; rw [ob_some, he]; rfl
  | true =>
    have q : bP (isNormal r.e) (W P y r.a r.h (kont P K Z)) (kont P K Z r.e r.a r.h) := q
    rw [he] at q
    obtain ⟨r', q', N', hN'⟩ := q
    refine W_go (r := r') q' ⟨max N N', fun n hn m hm => ?_⟩
    show andThen (exec P (callN P n) m x a h) _ = _
    rw [hN n (by omega) m (by omega)]; unfold andThen; rw [ob_some, he, sel_true]; exact hN' n (by omega) m (by omega)
theorem W_block {i : Nat} {x : Code} {a : DA} {h : DH} {K : List Fr} {Z : Post} (k : W P x a h (kont P (.block i :: K) Z)) : W P (.block i x) a h (kont P K Z) := by
  obtain ⟨r, q, N, hN⟩ := k
  refine W_go (r := ⟨leaveBlock i r.e, r.a, r.h⟩) q ⟨N, fun n hn m hm => ?_⟩
  show (ob (exec P (callN P n) m x a h) _) = _
  rw [hN n hn m hm]; rfl
theorem W_loop {x : Code} {a : DA} {h : DH} {K : List Fr} {Z : Post} (k : W P x a h (kont P (.loop x :: K) Z)) : W P (.loop x) a h (kont P K Z) := by
  obtain ⟨r, q, N, hN⟩ := k
  cases he : isNormal r.e with
  | false =>
    have q : bP (isNormal r.e) (W P (.loop x) r.a r.h (kont P K Z)) (kont P K Z r.e r.a r.h) := q
    rw [he] at q
    refine W_go (r := r) q ⟨N, fun n hn m hm => ?_⟩
    show andThen (exec P (callN P n) m x a h) _ = _
    rw [hN n hn m hm]; unfold andThen; rw [ob_some, he]; rfl
  | true =>
    have q : bP (isNormal r.e) (W P (.loop x) r.a r.h (kont P K Z)) (kont P K Z r.e r.a r.h) := q
    rw [he] at q
    obtain ⟨r', q', N', hN'⟩ := q
    refine W_go (r := r') q' ⟨max N N', fun n hn m hm => ?_⟩
    show andThen (exec P (callN P n) m x a h) _ = _
    rw [hN n (by omega) m (by omega)]; unfold andThen; rw [ob_some, he, sel_true]; exact hN' n (by omega) m (by omega)
theorem W_plain {i : Nat} {ops : Array Oper} {a : DA} {h : DH} {Q : Post} (k : VO P ops.toList ops.toList a h fun a h => Q .normal a h) : W P (.region i ops false) a h Q := by
  obtain ⟨a', h', q, N, hN⟩ := k
  refine W_go (r := ⟨.normal, a', h'⟩) q ⟨N, fun n hn m hm => ?_⟩
  show (ob (dops P (callN P n) ops.toList ops.toList a h) _) = _
  rw [hN n hn]; rfl
theorem W_draw {i : Nat} {ops : Array Oper} {a : DA} {h : DH} {Q : Post} (hp : drawPairs ops = some []) (k : VO P ops.toList ops.toList a h fun a h => Q .normal a h) : W P (.region i ops true) a h Q := by
  obtain ⟨a', h', q, N, hN⟩ := k
  refine W_go (r := ⟨.normal, a', h'⟩) q ⟨N, fun n hn m hm => ?_⟩
  show (ob (dregionDraw P (callN P n) ops a h) _) = _
  unfold dregionDraw
  rw [hp]
  show (ob (dops P (callN P n) ops.toList ops.toList a h) _) = _
  rw [hN n hn]; rfl
theorem W_drawF {i : Nat} {ops : Array Oper} {a : DA} {h : DH} {Q : Post} {p : Nat × Nat} {ps : List (Nat × Nat)} (hp : drawPairs ops = some (p :: ps)) (k : VF P ops.toList ops.toList a h fun a h fs => eitherAll (p :: ps) fs = true ∧ Q .normal a h) : W P (.region i ops true) a h Q := by
  obtain ⟨y, ⟨e, q⟩, N, hN⟩ := k
  refine W_go (r := ⟨.normal, y.a, y.h⟩) q ⟨N, fun n hn m hm => ?_⟩
  show (ob (dregionDraw P (callN P n) ops a h) _) = _
  unfold dregionDraw
  rw [hp]
  show (ob (ob (dopsF P (callN P n) ops.toList ops.toList a h) _) _) = _
  rw [hN n hn, ob_some, e]; rfl

theorem kont_seq {y : Code} {a : DA} {h : DH} {K : List Fr} {Z : Post} (k : W P y a h (kont P K Z)) : kont P (.seq y :: K) Z .normal a h := k
theorem kont_block {i : Nat} {e : DE} {a : DA} {h : DH} {K : List Fr} {Z : Post} (k : kont P K Z (leaveBlock i e) a h) : kont P (.block i :: K) Z e a h := k
theorem kont_xs {y : Code} {e : DE} {a : DA} {h : DH} {K : List Fr} {Z : Post} (he : isNormal e = false) (k : kont P K Z e a h) : kont P (.seq y :: K) Z e a h := by
  show bP (isNormal e) _ _
  rw [he]; exact k
theorem kont_xl {x : Code} {e : DE} {a : DA} {h : DH} {K : List Fr} {Z : Post} (he : isNormal e = false) (k : kont P K Z e a h) : kont P (.loop x :: K) Z e a h := by
  show bP (isNormal e) _ _
  rw [he]; exact k
theorem kont_loop {x : Code} {a : DA} {h : DH} {K : List Fr} {Z : Post} (k : W P (.loop x) a h (kont P K Z)) : kont P (.loop x :: K) Z .normal a h := k

/-! ### Functions -/
def Fin (P : Program) (fn : Func) (Z : Value → DH → Prop) : Post := fun e a h => ends e = true ∧ obP (dresults P fn a h) fun v => Z v h
theorem CP_of {f : FuncId} {fn : Func} {c : Code} {args : List Value} {h : DH} {Z : Value → DH → Prop} (hf : dfunc P f = some ⟨fn, c⟩) (k : W P c (argMap args) h (kont P [] (Fin P fn Z))) : CP P f args h Z := by
  obtain ⟨r, ⟨q1, q2⟩, N, hN⟩ := k
  refine obP_elim q2 fun v e hv => ⟨v, r.h, hv, N + 1, fun n hn => ?_⟩
  obtain ⟨n, rfl⟩ : ∃ k, n = k + 1 := ⟨n - 1, by omega⟩
  rw [callN_succ, hf, ob_some, hN n (by omega) (Nat.succ n) (by omega), ob_some, q1, guard'_true, e]
  rfl
end Go.Det
/- Operations of the reading, told without a program's types. -/
set_option linter.unusedVariables false
set_option linter.unusedSimpArgs false
noncomputable section
namespace Go.Det
variable {P : Program} {a : DA} {h : DH}

theorem sel_t {α : Sort _} {b : Bool} (hb : b = true) (x y : α) : sel b x y = x := by rw [hb]; rfl
theorem sel_f {α : Sort _} {b : Bool} (hb : b = false) (x y : α) : sel b x y = y := by rw [hb]; rfl
theorem valH_st {o : Op} {x : Option Value} (e : dop P a h o = valH h x) : St1 P a h o x := fun v hv => by rw [e, hv]; rfl
theorem val2_st {o : Op} {x : Option (Value × DH)} (e : dop P a h o = val2 x) : St2 P a h o x := fun v h' hv => by rw [e, hv]; rfl
theorem skipH_st {o : Op} {x : Option DH} (e : dop P a h o = skipH x) : St3 P a h o x := fun h' hv => by rw [e, hv]; rfl

/-! memory -/
def ld1 (h : DH) (x : Value) : Option Value := ob (asPtr x) fun p => ob (h.row p.b) fun r => lget r.c p.o
def ldN (s : Nat) (h : DH) (x : Value) : Option Value := ob (asPtr x) fun p => ob (h.row p.b) fun r => ob (cut r.c p.o s) fun l => some (mkAgg l)
theorem dload_1 {t : TypeId} {x : Value} (ht : dagg P t = some false) : dload P h t x = ld1 h x := by unfold dload ld1; rw [ht]; rfl
theorem dload_N {t : TypeId} {s : Nat} {x : Value} (ht : dagg P t = some true) (hs : tsize P t = some s) : dload P h t x = ldN s h x := by unfold dload ldN; rw [ht, hs]; rfl
theorem s_load1 {t : TypeId} {x : Operand} (ht : dagg P t = some false) : St1 P a h (.load t x) (ld1 h (dev a x)) := valH_st (congrArg (valH h) (dload_1 ht))
theorem s_loadN {t : TypeId} {s : Nat} {x : Operand} (ht : dagg P t = some true) (hs : tsize P t = some s) : St1 P a h (.load t x) (ldN s h (dev a x)) := valH_st (congrArg (valH h) (dload_N ht hs))
def st (s : Nat) (h : DH) (x v : Value) : Option DH := ob (asPtr x) fun p => guard' (sel (isTup v) false (sel (isTopv v) false (Nat.beq (llen (cellsOfV v)) s))) (dput h p.b p.o (cellsOfV v))
theorem s_store {t : TypeId} {s : Nat} {x v : Operand} (hs : tsize P t = some s) : St3 P a h (.store t x v) (st s h (dev a x) (dev a v)) :=
  skipH_st (congrArg skipH (by unfold dstore st; rw [hs]; rfl))
def fa (off : Nat) (x : Value) : Option Value := ob (asPtr x) fun p => some (p.at_ off)
theorem s_fa {s : TypeId} {f off sz : Nat} {x : Operand} (hf : tfieldAt P s f = some (off, sz)) (h0 : Nat.blt 0 sz = true) : St1 P a h (.fieldAddr s x f) (fa off (dev a x)) :=
  valH_st (congrArg (valH h) (by unfold dfieldAddr fa; rw [hf]; simp only [ob_some, h0, guard'_true]))
def iaS (s : Nat) (x i : Value) : Option Value := ob (natOf i) fun j => ob (asSl x) fun sl => ob (ob sl.p plOf) fun p => guard' (Nat.blt j sl.len) (some (p.at_ (Nat.mul j s)))
theorem s_iaS {t e : TypeId} {s : Nat} {x i : Operand} (ht : tslice P t = true) (he : telem P t = some e) (hs : tsize P e = some s) : St1 P a h (.indexAddr t x i) (iaS s (dev a x) (dev a i)) :=
  valH_st (congrArg (valH h) (by unfold dindexAddr iaS; rw [ht, he]; simp only [sel_true, ob_some, hs]))
def iaA (n s : Nat) (x i : Value) : Option Value := ob (natOf i) fun j => ob (asPtr x) fun p => guard' (Nat.blt j n) (some (p.at_ (Nat.mul j s)))
theorem s_iaA {t e : TypeId} {n s : Nat} {x i : Operand} (ht : tslice P t = false) (hr : tarr P t = some ⟨n, e⟩) (hs : tsize P e = some s) : St1 P a h (.indexAddr t x i) (iaA n s (dev a x) (dev a i)) :=
  valH_st (congrArg (valH h) (by unfold dindexAddr iaA; rw [ht, hr]; simp only [sel_false, ob_some, hs]))
def ixStr (x i : Value) : Option Value := ob (natOf i) fun j => ob (asStr x) fun s => ob (lget s.data.toList j) fun b => some (.int .u8 (Int.ofNat b.toNat))
theorem s_ixStr {t : TypeId} {x i : Operand} (ht : tstr P t = true) : St1 P a h (.index t x i) (ixStr (dev a x) (dev a i)) :=
  valH_st (congrArg (valH h) (by unfold dindex ixStr; rw [ht]; rfl))
def fld1 (off : Nat) (x : Value) : Option Value := ob (asCells x) fun cs => lget cs off
def fldN (off s : Nat) (x : Value) : Option Value := ob (asCells x) fun cs => ob (cut cs off s) fun l => some (mkAgg l)
theorem s_fld1 {s : TypeId} {f : Nat} {x : Operand} {fd : Field} (hf : tfield P s f = some fd) (hg : dagg P fd.type = some false) : St1 P a h (.field s x f) (fld1 fd.offset (dev a x)) :=
  valH_st (congrArg (valH h) (by unfold dfield fld1 dpart; rw [hf]; simp only [ob_some, hg, sel_false]))
theorem s_fldN {s : TypeId} {f n : Nat} {x : Operand} {fd : Field} (hf : tfield P s f = some fd) (hg : dagg P fd.type = some true) (hs : tsize P fd.type = some n) : St1 P a h (.field s x f) (fldN fd.offset n (dev a x)) :=
  valH_st (congrArg (valH h) (by unfold dfield fldN dpart; rw [hf]; simp only [ob_some, hg, sel_true, hs]))
def ixA1 (n s : Nat) (x i : Value) : Option Value := ob (natOf i) fun j => ob (asCells x) fun cs => guard' (Nat.blt j n) (lget cs (Nat.mul j s))
theorem s_ixA1 {t e : TypeId} {n s : Nat} {x i : Operand} (ht : tstr P t = false) (hr : tarr P t = some ⟨n, e⟩) (hs : tsize P e = some s) (hg : dagg P e = some false) : St1 P a h (.index t x i) (ixA1 n s (dev a x) (dev a i)) :=
  valH_st (congrArg (valH h) (by unfold dindex ixA1 dpart; rw [ht, hr]; simp only [sel_false, ob_some, hs, hg]))

def bx (t : TypeId) (h : DH) (v : Value) : Option (Value × DH) := guard' (sel (isTup v) false (sel (isTopv v) false true)) (some (newPtr h, h.push (.cells (cellsOfV v) t .exact)))
theorem s_box {t : TypeId} {x : Operand} : St2 P a h (.box t x) (bx t h (dev a x)) := by
  intro v h' hv
  unfold bx at hv
  rw [guard'_eq_some] at hv
  show dbox h t (dev a x) = _
  unfold dbox
  rw [hv.1]
  simp only [Option.some.injEq, Prod.mk.injEq] at hv
  rw [← hv.2.1, ← hv.2.2]; rfl
theorem s_alloc {t : TypeId} {z : List Value} (hz : tzeroCells P t = some z) : dop P a h (.alloc t) = some (.val (newPtr h) (h.push (.cells z t .exact))) := by
  show dalloc P h t = _
  unfold dalloc; rw [hz]; rfl
theorem s_makeMap {t : TypeId} : dop P a h (.makeMap t none) = some (.val (.map (some h.n)) (h.push (.map [] 0))) := rfl
theorem s_makeFunc {g : FuncId} {x y : Array Operand} : dop P a h (.makeFunc (.func g) x y) = some (.val (.func (.func g) ⟨lmap (dev a) x.toList⟩ ⟨lmap (dev a) y.toList⟩) h) := rfl
theorem s_move {x : Operand} : dop P a h (.move x) = some (.val (dev a x) h) := rfl
theorem s_assign {x : Operand} : dop P a h (.assign x) = some (.val (dev a x) h) := rfl

/-! parts -/
def fillE (qs : List ((Nat × Nat) × Value)) (z : List Value) : Option (List Value) :=
  @List.rec ((Nat × Nat) × Value) (fun _ => List Value → Option (List Value)) some (fun q _ r z =>
    guard' (sel (isTup q.2) false (sel (Nat.beq (llen (cellsOfV q.2)) q.1.2) (Nat.ble (Nat.add q.1.1 q.1.2) (llen z)) false)) (r (splice z q.1.1 (cellsOfV q.2)))) qs z
def Fil (pl : Nat → Option (Nat × Nat)) (ps : List (Nat × Value)) (qs : List ((Nat × Nat) × Value)) : Prop := ∀ z, dfill pl z ps = fillE qs z
theorem fil_nil {pl : Nat → Option (Nat × Nat)} : Fil pl [] [] := fun _ => rfl
theorem fil_cons {pl : Nat → Option (Nat × Nat)} {i : Nat} {os : Nat × Nat} {v : Value} {ps : List (Nat × Value)} {qs : List ((Nat × Nat) × Value)} (hp : pl i = some os) (k : Fil pl ps qs) : Fil pl ((i, v) :: ps) ((os, v) :: qs) := by
  intro z
  show (ob (pl i) fun os => _) = _
  rw [hp, ob_some]
  show guard' _ (dfill pl (splice z os.1 (cellsOfV v)) ps) = _
  rw [k]; rfl
def noTopQ (q : (Nat × Nat) × Value) : Bool := sel (isTopv q.2) false true
theorem fil_top {i : Nat} {os : Nat × Nat} {v : Value} {ps : List (Nat × Value)} {qs : List ((Nat × Nat) × Value)} (k : lall noTop ps = lall noTopQ qs) : lall noTop ((i, v) :: ps) = lall noTopQ ((os, v) :: qs) := by
  show sel _ (lall noTop ps) false = _
  rw [k]; rfl
def bld (z : List Value) (qs : List ((Nat × Nat) × Value)) : Option Value := guard' (lall noTopQ qs) (ob (fillE qs z) fun cs => some (mkAgg cs))
theorem s_bld {t : TypeId} {z : List Value} {fs : Array Field} {ps : Array (Nat × Operand)} {qs : List ((Nat × Nat) × Value)} (hz : tzeroCells P t = some z) (hd : P.underlying t = some (.struct fs)) (hsz : lall (hasSize P) fs.toList = true)
    (hq : Fil (tfieldAt P t) (evParts a ps) qs) (ht : lall noTop (evParts a ps) = lall noTopQ qs) : St1 P a h (.build t ps) (bld z qs) :=
  valH_st (congrArg (valH h) (by unfold dbuild bld; rw [hz, hd, ht]; simp only [ob_some, hsz, guard'_true]; rw [hq]))
theorem s_bldA {t e : TypeId} {n s : Nat} {z : List Value} {ps : Array (Nat × Operand)} {qs : List ((Nat × Nat) × Value)} (hz : tzeroCells P t = some z) (hd : P.underlying t = some (.array n e)) (hs : tsize P e = some s)
    (hq : Fil (fun j => some (Nat.mul j s, s)) (evParts a ps) qs) (ht : lall noTop (evParts a ps) = lall noTopQ qs) : St1 P a h (.build t ps) (bld z qs) :=
  valH_st (congrArg (valH h) (by unfold dbuild bld; rw [hz, hd, ht]; simp only [ob_some, hs]; rw [hq]))
def bldSl (e : TypeId) (s len : Nat) (z : List Value) (qs : List ((Nat × Nat) × Value)) (h : DH) : Option (Value × DH) := guard' (lall noTopQ qs) <| guard' (Nat.ble (Nat.mul len s) (2 ^ 24)) <|
  ob (fillE qs (lrep z len)) fun cs => some (.slice (some ⟨h.n, 0, none⟩) len len, h.push (.cells cs e .exact))
theorem s_bldSl {t e : TypeId} {s len : Nat} {z : List Value} {ps : Array (Nat × Operand)} {qs : List ((Nat × Nat) × Value)} (he : telem P t = some e) (hs : tsize P e = some s) (hz : tzeroRow P e = some z)
    (hq : Fil (fun j => some (Nat.mul j s, s)) (evParts a ps) qs) (ht : lall noTop (evParts a ps) = lall noTopQ qs) : St2 P a h (.buildSlice t len ps) (bldSl e s len z qs h) :=
  val2_st (congrArg val2 (by unfold dbuildSlice bldSl; rw [he, ht]; simp only [ob_some, hs, hz]; rw [hq]))
def mkS (e : TypeId) (s by_ : Nat) (z : List Value) (h : DH) (len cap : Value) : Option (Value × DH) := ob (natOf len) fun l => ob (natOf cap) fun c =>
  guard' (sel (Nat.ble l c) (sel (Nat.ble c (2 ^ 47)) (Nat.ble (Nat.mul by_ c) (2 ^ 47)) false) false) (some (.slice (some ⟨h.n, 0, none⟩) l c, h.push (.cells (lrep z c) e .exact)))
theorem s_mkS {t e : TypeId} {s by_ : Nat} {z : List Value} {l c : Operand} (he : telem P t = some e) (hs : tsize P e = some s) (hz : tzeroRow P e = some z) (hb : tbytes P e = some by_) : St2 P a h (.makeSlice t l c) (mkS e s by_ z h (dev a l) (dev a c)) :=
  val2_st (congrArg val2 (by unfold dmakeSlice mkS; rw [he]; simp only [ob_some, hs, hz, hb]))

/-! slices -/
def slStr (x : Value) (lo hi : Option Value) : Option Value := ob (asStr x) fun s => ob (dbounds s.size s.size lo hi) fun b => some (.string (s.extract b.1 b.2))
def slS (e : TypeId) (sz : Nat) (h : DH) (x : Value) (lo hi : Option Value) : Option Value := ob (asSl x) fun s => ob (dbounds s.len s.cap lo hi) fun b => slAt h e s.p (Nat.mul b.1 sz) (Nat.sub b.2 b.1) (Nat.sub s.cap b.1)
theorem s_slStr {t : TypeId} {x : Operand} {lo hi : Option Operand} (ht : tstr P t = true) : St1 P a h (.slice t x lo hi none) (slStr (dev a x) (oev a lo) (oev a hi)) :=
  valH_st (congrArg (valH h) (by show dslice P h t (dev a x) (oev a lo) (oev a hi) = _; unfold dslice slStr; rw [ht]; rfl))
theorem s_slS {t e : TypeId} {sz : Nat} {x : Operand} {lo hi : Option Operand} (ht : tstr P t = false) (he : telem P t = some e) (hs : tsize P e = some sz) : St1 P a h (.slice t x lo hi none) (slS e sz h (dev a x) (oev a lo) (oev a hi)) :=
  valH_st (congrArg (valH h) (by show dslice P h t (dev a x) (oev a lo) (oev a hi) = _; unfold dslice slS; rw [ht, he]; simp only [sel_false, ob_some, hs]))
def slS3 (e : TypeId) (sz : Nat) (h : DH) (x : Value) (lo hi mx : Option Value) : Option Value := ob (asSl x) fun s => ob (ob mx natOf) fun m => guard' (Nat.ble m s.cap) <|
    ob (ob hi natOf) fun hi => ob (obnd lo 0) fun l => guard' (sel (Nat.ble l hi) (Nat.ble hi m) false) (slAt h e s.p (Nat.mul l sz) (Nat.sub hi l) (Nat.sub m l))
theorem s_slS3 {t e : TypeId} {sz : Nat} {x mx : Operand} {lo hi : Option Operand} (he : telem P t = some e) (hs : tsize P e = some sz) : St1 P a h (.slice t x lo hi (some mx)) (slS3 e sz h (dev a x) (oev a lo) (oev a hi) (some (dev a mx))) :=
  valH_st (congrArg (valH h) (by show dslice3 P h t (dev a x) (oev a lo) (oev a hi) (some (dev a mx)) = _; unfold dslice3 slS3; rw [he]; simp only [ob_some, hs]))

/-! append, len -/
def appS (e : TypeId) (by_ sz : Nat) (h : DH) (s x : Value) : Option (Value × DH) := ob (asSl s) fun sl => guard' (Nat.ble sl.len sl.cap) (ob (appendedSl h sz x) fun p => dappGo h e by_ sz s p.1 p.2)
def appStr (e : TypeId) (by_ sz : Nat) (h : DH) (s x : Value) : Option (Value × DH) := ob (asSl s) fun sl => guard' (Nat.ble sl.len sl.cap) (ob (appendedStr sz x) fun p => dappGo h e by_ sz s p.1 p.2)
theorem s_app {st xt e xe : TypeId} {by_ sz : Nat} {z : List Value} {s x : Operand} (he : telem P st = some e) (hx : P.underlying xt = some (.slice xe)) (hs : tsize P e = some sz) (hb : tbytes P e = some by_) (hz : tzeroRow P e = some z) :
    St2 P a h (.call ⟨.builtin .append, #[s, x], #[st, xt]⟩) (appS e by_ sz h (dev a s) (dev a x)) :=
  val2_st (congrArg val2 (by show dappend P h st xt (dev a s) (dev a x) = _; unfold dappend appS; rw [he, hx]; simp only [ob_some, hs, hb, hz]; rfl))
theorem s_appStr {st xt e : TypeId} {by_ sz : Nat} {z : List Value} {s x : Operand} (he : telem P st = some e) (hx : P.underlying xt = some .string) (hs : tsize P e = some sz) (hb : tbytes P e = some by_) (hz : tzeroRow P e = some z) :
    St2 P a h (.call ⟨.builtin .append, #[s, x], #[st, xt]⟩) (appStr e by_ sz h (dev a s) (dev a x)) :=
  val2_st (congrArg val2 (by show dappend P h st xt (dev a s) (dev a x) = _; unfold dappend appStr; rw [he, hx]; simp only [ob_some, hs, hb, hz]; rfl))
def appI (e : TypeId) (by_ sz : Nat) (z : List Value) (h : DH) (s x : Value) : Option (Value × DH) := ob (asSl s) fun sl => guard' (Nat.ble sl.len sl.cap) (ob (appendedInt sz z x) fun p => dappGo h e by_ sz s p.1 p.2)
theorem s_appI {st xt e : TypeId} {ik : IntKind} {by_ sz : Nat} {z : List Value} {s x : Operand} (he : telem P st = some e) (hx : P.underlying xt = some (.int ik)) (hs : tsize P e = some sz) (hb : tbytes P e = some by_) (hz : tzeroRow P e = some z) :
    St2 P a h (.call ⟨.builtin .append, #[s, x], #[st, xt]⟩) (appI e by_ sz z h (dev a s) (dev a x)) :=
  val2_st (congrArg val2 (by show dappend P h st xt (dev a s) (dev a x) = _; unfold dappend appI; rw [he, hx]; simp only [ob_some, hs, hb, hz]; rfl))
def lenS (x : Value) : Option Value := ob (asSl x) fun s => some (.int .i64 (Int.ofNat s.len))
def lenStr (x : Value) : Option Value := ob (asStr x) fun s => some (.int .i64 (Int.ofNat s.size))
def lenM (h : DH) (x : Value) : Option Value := ob (sel (isNilMap x) (some 0) (ob (asMapB x) fun b => ob (h.ents b) fun en => some (llen en.es))) fun n => some (.int .i64 (Int.ofNat n))
theorem s_lenS {t e : TypeId} {x : Operand} (ht : P.underlying t = some (.slice e)) : St1 P a h (.call ⟨.builtin .len, #[x], #[t]⟩) (lenS (dev a x)) :=
  valH_st (congrArg (valH h) (by show dlen P h t (dev a x) = _; unfold dlen lenS; rw [ht]; simp only [ob_some, lenD]; cases asSl (dev a x) <;> rfl))
theorem s_lenStr {t : TypeId} {x : Operand} (ht : P.underlying t = some .string) : St1 P a h (.call ⟨.builtin .len, #[x], #[t]⟩) (lenStr (dev a x)) :=
  valH_st (congrArg (valH h) (by show dlen P h t (dev a x) = _; unfold dlen lenStr; rw [ht]; simp only [ob_some, lenD]; cases asStr (dev a x) <;> rfl))
theorem s_lenM {t k e : TypeId} {x : Operand} (ht : P.underlying t = some (.map k e)) : St1 P a h (.call ⟨.builtin .len, #[x], #[t]⟩) (lenM h (dev a x)) :=
  valH_st (congrArg (valH h) (by show dlen P h t (dev a x) = _; unfold dlen lenM; rw [ht]; rfl))
theorem s_lenA {t e : TypeId} {n : Nat} {x : Operand} (ht : P.underlying t = some (.array n e)) : St1 P a h (.call ⟨.builtin .len, #[x], #[t]⟩) (some (.int .i64 (Int.ofNat n))) :=
  valH_st (congrArg (valH h) (by show dlen P h t (dev a x) = _; unfold dlen; rw [ht]; rfl))
def capS (h : DH) (x : Value) : Option Value :=
  sel (isNilSl x) (some (.int .i64 0)) (ob (asSl x) fun s => ob (ob s.p plOf) fun p => ob (h.row p.b) fun r => guard' (isExact r.md) (some (.int .i64 (Int.ofNat s.cap))))
theorem s_capS {t : TypeId} {x : Operand} (ht : tslice P t = true) : St1 P a h (.call ⟨.builtin .cap, #[x], #[t]⟩) (capS h (dev a x)) :=
  valH_st (congrArg (valH h) (by show dcap P h t (dev a x) = _; unfold dcap capS; rw [ht]; rfl))

/-! numbers, tests -/
def ibin (op : BinOp) (x y : Value) : Option Value := ob (asKI x) fun i => ob (asKI y) fun j => guard' (sameKind i.k j.k) (dint op i.k i.n j.n)
theorem s_ibin {op : BinOp} {t yt : TypeId} {x y : Operand} : St1 P a h (.binOp op t x y yt) (ibin op (dev a x) (dev a y)) := by
  intro v hv
  show valH h (dbin P op t x y (dev a x) (dev a y)) = _
  unfold ibin at hv
  obtain ⟨i, h1, hv⟩ := ob_eq_some.1 hv
  obtain ⟨j, h2, hv⟩ := ob_eq_some.1 hv
  rw [guard'_eq_some] at hv
  have : dbin P op t x y (dev a x) (dev a y) = some v := by
    unfold dbin; rw [h1]; show dbinInt P op t x y _ _ i = _; unfold dbinInt; rw [h2]
    show sel (sameKind i.k j.k) _ _ = _
    rw [hv.1]
    show (@Option.rec Value (fun _ => Option Value) _ some (dint op i.k i.n j.n)) = _
    rw [hv.2]
  rw [this]; rfl
/-- '/' and '%', by a number that is not 0. -/
def idiv (op : BinOp) (x y : Value) : Option Value := ob (asKI x) fun i => ob (asKI y) fun j => guard' (sel (sameKind i.k j.k) (sel (ieq j.n 0) false true) false) (match op with
  | .quo => some (.int i.k (i.k.wrap (i.n.tdiv j.n)))
  | .rem => some (.int i.k (i.n.tmod j.n))
  | _ => none)
theorem s_idiv {op : BinOp} {t yt : TypeId} {x y : Operand} : St1 P a h (.binOp op t x y yt) (idiv op (dev a x) (dev a y)) := by
  intro v hv
  show valH h (dbin P op t x y (dev a x) (dev a y)) = _
  unfold idiv at hv
  obtain ⟨i, h1, hv1⟩ := ob_eq_some.1 hv
  obtain ⟨j, h2, hv2⟩ := ob_eq_some.1 hv1
  rw [guard'_eq_some] at hv2
  obtain ⟨hk, hv3⟩ := hv2
  clear hv hv1
  have hs : sameKind i.k j.k = true := by cases hh : sameKind i.k j.k with
    | true => rfl
    | false => rw [hh] at hk; cases hk
  rw [hs, sel_true] at hk
  have hz : ¬ j.n = 0 := by
    intro e; rw [e] at hk; cases hk
  have e1 := asKI_eq h1
  have e2 := asKI_eq h2
  have ek := sameKind_eq hs
  rw [← ek] at e2
  suffices hd : dbin P op t x y (dev a x) (dev a y) = some v by rw [hd]; rfl
  rw [e1, e2]
  cases op <;> first | (cases hv3; done) | skip
  all_goals
    simp only [Option.some.injEq] at hv3
    subst hv3
    unfold dbin
    show dbinInt P _ t x y _ _ ⟨i.k, i.n⟩ = _
    unfold dbinInt
    show sel (sameKind i.k i.k) _ _ = _
    rw [show sameKind i.k i.k = true from ek ▸ hs, sel_true]
    show dbinSlow P _ t x y _ _ = _
    unfold dbinSlow
    show pureFlat P _ = _
    unfold pureFlat
    simp only [binOp, Op.intDiv, eqGuard, ne_eq, not_true_eq_false, if_false, hz]
    rfl
def sbin (op : BinOp) (x y : Value) : Option Value := ob (asStr x) fun s => ob (asStr y) fun u => match op with
  | .add => guard' (decide (((s.size + u.size : Nat) : Int) ≤ IntKind.i64.max)) (some (.string (s ++ u)))
  | .eql => some (.bool (s.toList == u.toList))
  | .neq => some (.bool (!(s.toList == u.toList)))
  | _ => none
theorem s_sbin {op : BinOp} {t yt : TypeId} {x y : Operand} : St1 P a h (.binOp op t x y yt) (sbin op (dev a x) (dev a y)) := by
  intro v hv
  show valH h (dbin P op t x y (dev a x) (dev a y)) = _
  unfold sbin at hv
  obtain ⟨i, h1, hv1⟩ := ob_eq_some.1 hv
  obtain ⟨j, h2, hv2⟩ := ob_eq_some.1 hv1
  clear hv hv1
  replace hv := hv2
  rw [asStr_eq h1, asStr_eq h2]
  suffices hd : dbin P op t x y (.string i) (.string j) = some v by rw [hd]; rfl
  show pureFlat P _ = _
  unfold pureFlat
  cases op <;> first | (cases hv; done) | skip
  · dsimp only at hv
    rw [guard'_eq_some] at hv
    obtain ⟨k1, k2⟩ := hv
    simp only [Option.some.injEq] at k2
    subst k2
    have k1 : ¬ (((i.size + j.size : Nat) : Int) > IntKind.i64.max) := by simp at k1 ⊢; omega
    simp only [binOp, Op.stringOp, eqGuard, if_neg k1]
    rfl
  · dsimp only at hv
    simp only [Option.some.injEq] at hv
    subst hv
    rfl
  · dsimp only at hv
    simp only [Option.some.injEq] at hv
    subst hv
    rfl
def bnot (x : Value) : Option Value := ob (asB x) fun b => some (.bool (sel b false true))
theorem s_not {t : TypeId} {x : Operand} : St1 P a h (.unOp .not t x) (bnot (dev a x)) := by
  intro v hv
  unfold bnot at hv
  obtain ⟨b, h1, hv⟩ := ob_eq_some.1 hv
  show dun P h .not (dev a x) = _
  rw [asB_eq h1]
  simp only [Option.some.injEq] at hv
  subst hv
  cases b <;> rfl
def pk (c x y : Value) : Option Value := ob (asB c) fun b => some (sel b x y)
theorem s_pk {c x y : Operand} : St1 P a h (.pick c x y) (pk (dev a c) (dev a x) (dev a y)) := by
  intro v hv
  unfold pk at hv
  obtain ⟨b, h1, hv⟩ := ob_eq_some.1 hv
  show dpick a h c x y = _
  unfold dpick
  rw [h1, ob_some]
  simp only [Option.some.injEq] at hv
  subst hv
  cases b <;> rfl
def nilc (x : Value) : Option Value := guard' (isSure x) (some x)
theorem s_nilc {x : Operand} : St1 P a h (.nilCheck x) (nilc (dev a x)) := by
  intro v hv
  unfold nilc at hv
  rw [guard'_eq_some] at hv
  show dnilCheck h (dev a x) = _
  unfold dnilCheck
  rw [hv.1]
  obtain ⟨_, hv⟩ := hv
  simp only [Option.some.injEq] at hv
  rw [hv]; rfl
theorem s_gbin {op : BinOp} {t yt : TypeId} {x y : Operand} : St1 P a h (.binOp op t x y yt) (dbin P op t x y (dev a x) (dev a y)) := valH_st rfl
def cvI (k : IntKind) (x : Value) : Option Value := ob (asKI x) fun i => some (.int k (k.wrap i.n))
theorem s_cvI {src dst : TypeId} {k : IntKind} {x : Operand} (hc : ∀ k' n, pureFlat P (convert src dst (.int k' n)) = some (.int k (k.wrap n))) : St1 P a h (.convert src dst x) (cvI k (dev a x)) := by
  intro v hv
  unfold cvI at hv
  obtain ⟨i, h1, hv⟩ := ob_eq_some.1 hv
  show valH h (dconvert P h src dst (dev a x)) = _
  rw [asKI_eq h1]
  simp only [Option.some.injEq] at hv
  subst hv
  show valH h (pureFlat P (convert src dst (.int i.k i.n))) = _
  rw [hc]; rfl
def cvB (h : DH) (x : Value) : Option Value := ob (asSl x) fun s => ob (ob s.p plOf) fun p => ob (h.row p.b) fun r => ob (cut r.c p.o s.len) fun l => ob (lmapM byteOf' l) fun bs => some (.string ⟨⟨bs⟩⟩)
theorem s_cvB {src dst e : TypeId} {x : Operand} (he : telem P src = some e) (hu : tu8 P e = true) (hd : tstr P dst = true) : St1 P a h (.convert src dst x) (cvB h (dev a x)) := by
  intro v hv
  have hx : isFlat (dev a x) = false := by
    unfold cvB at hv
    obtain ⟨s, h1, hv1⟩ := ob_eq_some.1 hv
    obtain ⟨q, h2, _⟩ := ob_eq_some.1 hv1
    obtain ⟨p, h3, _⟩ := ob_eq_some.1 h2
    revert h1
    cases dev a x <;> intro h1 <;> first | (cases h1; done) | skip
    cases h1
    simp only at h3
    subst h3
    rfl
  suffices hh : dop P a h (.convert src dst x) = valH h (cvB h (dev a x)) by rw [hh, hv]; rfl
  show valH h (dconvert P h src dst (dev a x)) = _
  refine congrArg (valH h) ?_
  unfold dconvert; rw [hx]; show dconvBytes P h src dst (dev a x) = _; unfold dconvBytes cvB; rw [he]; simp only [ob_some, hu, hd, sel_true, guard'_true]
def ext1 (x : Value) (i : Nat) : Option Value := match x with
  | .tuple vs => lget vs.toList i
  | _ => none
theorem s_ext {x : Operand} {i : Nat} : St1 P a h (.extract x i) (ext1 (dev a x) i) := by
  intro v hv
  show dextract h (dev a x) i = _
  unfold ext1 at hv
  unfold dextract
  split at hv
  · rename_i vs e; rw [e]; dsimp only; rw [hv]; rfl
  · cases hv

/-! maps: as they are -/
theorem s_lookup {t : TypeId} {m k : Operand} {ok : Bool} : St1 P a h (.lookup t m k ok) (dlookup P h t (dev a m) (dev a k) ok) := valH_st rfl
theorem s_mapUpdate {t : TypeId} {m k v : Operand} : St3 P a h (.mapUpdate t m k v) (dmapUpdate P h t (dev a m) (dev a k) (dev a v)) := skipH_st rfl
theorem s_mapEntry {t : TypeId} {m k : Operand} : St2 P a h (.mapEntry t m k) (dmapEntry P h t (dev a m) (dev a k)) := val2_st rfl
theorem s_entryStore {t : TypeId} {m s v : Operand} : St3 P a h (.entryStore t m s v) (dentryStore h (dev a m) (dev a s) (dev a v)) := skipH_st rfl
def maxI (P : Program) (t1 t2 : TypeId) (x y : Value) : Option Value := guard' (lall isFlat [x, y]) (pureFlat P (Builtin.max_ ⟨[t1, t2]⟩ 0 ⟨[x, y]⟩))
def minI (P : Program) (t1 t2 : TypeId) (x y : Value) : Option Value := guard' (lall isFlat [x, y]) (pureFlat P (Builtin.min_ ⟨[t1, t2]⟩ 0 ⟨[x, y]⟩))
theorem guard_valH {g : Bool} {x : Option Value} : guard' g (valH h x) = valH h (guard' g x) := by cases g <;> rfl
theorem s_max {t1 t2 : TypeId} {x y : Operand} : St1 P a h (.call ⟨.builtin .max, #[x, y], #[t1, t2]⟩) (maxI P t1 t2 (dev a x) (dev a y)) := valH_st guard_valH
theorem s_min {t1 t2 : TypeId} {x y : Operand} : St1 P a h (.call ⟨.builtin .min, #[x, y], #[t1, t2]⟩) (minI P t1 t2 (dev a x) (dev a y)) := valH_st guard_valH

/-! steps that always go; calls of a value -/
section
variable {ops l : List Oper} {Q : DA → DH → Prop} {dst : Option Nat} {o : Op} {ty : TypeId} {pos : String} {after : Array Edge} {j t : Nat} {b w : Bool}
theorem VO_5 {v : Value} {h1 : DH} (e : dop P a h o = some (.val v h1)) (k : VO P ops l (DA.put a dst v) h1 Q) : VO P ops (⟨dst, o, ty, pos, after, none⟩ :: l) a h Q :=
  VO_go (o := ⟨dst, o, ty, pos, after, none⟩) rfl ⟨0, fun _ _ => dstep_val e⟩ k
theorem VO_5g (hj : dstOf ops j = some t) (ew : gotB (DA.val a t) b = some w) {v : Value} {h1 : DH} (e : dop P a h o = some (.val v h1)) (k : VO P ops l (DA.put a dst (sel w v undef)) (sel w h1 h) Q) : VO P ops (⟨dst, o, ty, pos, after, some (j, b)⟩ :: l) a h Q := by
  have hw := dwanted_some (o := ⟨dst, o, ty, pos, after, some (j, b)⟩) rfl hj ew
  cases w
  · exact VO_no hw k
  · exact VO_go hw ⟨0, fun _ _ => dstep_val e⟩ k
theorem VO_5m (hj : dstOf ops j = some t) (ew : gotB (DA.val a t) b = some w) {v : Value} (e : dop P a h o = some (.val v h)) (k : VO P ops l (DA.put a dst (sel w v undef)) h Q) : VO P ops (⟨dst, o, ty, pos, after, some (j, b)⟩ :: l) a h Q := by
  have hw := dwanted_some (o := ⟨dst, o, ty, pos, after, some (j, b)⟩) rfl hj ew
  cases w
  · exact VO_no hw k
  · exact VO_go hw ⟨0, fun _ _ => dstep_val e⟩ k
theorem VO_4v {x : Operand} {args : Array Operand} {tys : Array TypeId} {f : Value → DH → Prop} (H : obP (asFunc (dev a x)) fun g => CP P g.1 (lapp g.2.1 (lapp (lmap (dev a) args.toList) g.2.2)) h f) (k : ∀ v h1, f v h1 → VO P ops l (DA.put a dst v) h1 Q) :
    VO P ops (⟨dst, .call ⟨.value x, args, tys⟩, ty, pos, after, none⟩ :: l) a h Q :=
  obP_elim H fun g e hv => VO_4 (by show dcallV h (dev a x) _ = _; unfold dcallV; rw [e]; rfl) hv k
end
section
variable {ops l : List Oper} {Q : DA → DH → List Foot → Prop} {dst : Option Nat} {o : Op} {ty : TypeId} {pos : String} {after : Array Edge} {j t : Nat} {b w : Bool}
theorem VF_5 (hi : isCall o = false) {v : Value} {h1 : DH} (e : dop P a h o = some (.val v h1)) (k : VF P ops l (DA.put a dst v) h1 fun a' h' fs => Q a' h' (footOf a o :: fs)) : VF P ops (⟨dst, o, ty, pos, after, none⟩ :: l) a h Q :=
  VF_op (o := ⟨dst, o, ty, pos, after, none⟩) rfl hi (fun _ => dstep_val e) k
theorem VF_5m (hi : isCall o = false) (hj : dstOf ops j = some t) (ew : gotB (DA.val a t) b = some w) {v : Value} (e : dop P a h o = some (.val v h)) (k : VF P ops l (DA.put a dst (sel w v undef)) h fun a' h' fs => Q a' h' (gF w (footOf a o) :: fs)) : VF P ops (⟨dst, o, ty, pos, after, some (j, b)⟩ :: l) a h Q := by
  have hw := dwanted_some (o := ⟨dst, o, ty, pos, after, some (j, b)⟩) rfl hj ew
  cases w
  · exact VF_no hw k
  · exact VF_op hw hi (fun _ => dstep_val e) k
theorem VF_4v {x : Operand} {args : Array Operand} {tys : Array TypeId} {f : Value → DH → Prop} (hi : isCall (.call ⟨.value x, args, tys⟩) = true) (H : obP (asFunc (dev a x)) fun g => CP P g.1 (lapp g.2.1 (lapp (lmap (dev a) args.toList) g.2.2)) (reset h) f)
    (k : ∀ v h1, f v h1 → VF P ops l (DA.put a dst v) (lowered h1 h.low) fun a' h' fs => Q a' h' (callFoot h h1 :: fs)) :
    VF P ops (⟨dst, .call ⟨.value x, args, tys⟩, ty, pos, after, none⟩ :: l) a h Q :=
  obP_elim H fun g e hv => VF_4 hi (by show dcallV (reset h) (dev a x) _ = _; unfold dcallV; rw [e]; rfl) hv k
end
end Go.Det
end
/- Words of the printed conditions: parts of code, steps, results. -/
set_option linter.unusedVariables false
noncomputable section
namespace Go.Det
variable {P : Program} {a : DA} {h : DH}
namespace Cd
def sL : Code → Code
  | .seq x _ => x
  | c => c
def sR : Code → Code
  | .seq _ y => y
  | c => c
def cT : Code → Code
  | .cond _ x _ => x
  | c => c
def cE : Code → Code
  | .cond _ _ y => y
  | c => c
def bB : Code → Code
  | .block _ x => x
  | c => c
def lB : Code → Code
  | .loop x => x
  | c => c
def rO : Code → Array Oper
  | .region _ ops _ => ops
  | _ => #[]
def bO (f : Func) : Code := f.body.getD .skip
end Cd
def al (t : TypeId) (z : List Value) (h : DH) : Option (Value × DH) := some (newPtr h, h.push (.cells z t .exact))
theorem s_al {t : TypeId} {z : List Value} (hz : tzeroCells P t = some z) : St2 P a h (.alloc t) (al t z h) := by
  intro v h' hv
  unfold al at hv
  simp only [Option.some.injEq, Prod.mk.injEq] at hv
  rw [s_alloc hz, hv.1, hv.2]
def mkM (h : DH) : Option (Value × DH) := some (.map (some h.n), h.push (.map [] 0))
theorem s_mkM {t : TypeId} : St2 P a h (.makeMap t none) (mkM h) := by
  intro v h' hv
  unfold mkM at hv
  simp only [Option.some.injEq, Prod.mk.injEq] at hv
  rw [s_makeMap, hv.1, hv.2]
theorem lm_nil {α β : Type} {f : α → Option β} : lmapM f [] = some [] := rfl
theorem lm_cons {α β : Type} {f : α → Option β} {x : α} {l : List α} {b : β} {bs : List β} (h : f x = some b) (k : lmapM f l = some bs) : lmapM f (x :: l) = some (b :: bs) := by
  show (ob (f x) fun b => ob (lmapM f l) fun bs => some (b :: bs)) = _
  rw [h, k]; rfl
theorem dres_mk {fn : Func} {vs : List Value} (k : lmapM (dresult P a h) fn.results.toList = some vs) : dresults P fn a h = some (oneOr vs) := by
  unfold dresults; rw [k]; rfl
end Go.Det
end
/- What is known of a heap of the reading: blocks, frames, and what operations do to them. -/
set_option linter.unusedVariables false
set_option linter.unusedSimpArgs false
noncomputable section
namespace Go.Det
variable {P : Program}

/-- A block is there, and is that. -/
def Has (h : DH) (b : Nat) (k : DBlk) : Prop := b < h.n ∧ h.get b = some k
/-- From one heap to another: what was there stays, but for some blocks. -/
structure Kp (h h' : DH) (S : Nat → Prop) : Prop where
  n : h.n ≤ h'.n
  get : ∀ b, b < h.n → ¬ S b → h'.get b = h.get b
  low : ∀ m, m ≤ h.low → m ≤ h.n → (∀ b, S b → m ≤ b) → m ≤ h'.low
def none' : Nat → Prop := fun _ => False
abbrev Ext (h h' : DH) : Prop := Kp h h' none'
theorem Kp.refl (h : DH) (S : Nat → Prop) : Kp h h S := ⟨Nat.le_refl _, fun _ _ _ => rfl, fun _ h1 _ _ => h1⟩
theorem Ext.refl (h : DH) : Ext h h := Kp.refl h _
theorem Kp.trans' {h h1 h2 : DH} {S S1 : Nat → Prop} (a : Kp h h1 S) (b : Kp h1 h2 S1) (i : ∀ x, S1 x → S x ∨ h.n ≤ x) : Kp h h2 S := by
  refine ⟨Nat.le_trans a.n b.n, fun x hx hs => ?_, fun m h1 h2 h3 => b.low m (a.low m h1 h2 h3) (Nat.le_trans h2 a.n) fun x hx => ?_⟩
  · rw [b.get x (Nat.lt_of_lt_of_le hx a.n) (fun h => by
      rcases i x h with h | h
      · exact hs h
      · omega), a.get x hx hs]
  · rcases i x hx with h | h
    · exact h3 x h
    · omega
theorem Kp.trans {h h1 h2 : DH} {S : Nat → Prop} (a : Kp h h1 S) (b : Kp h1 h2 S) : Kp h h2 S := a.trans' b fun _ h => .inl h
theorem Kp.ext {h h1 h2 : DH} {S : Nat → Prop} (a : Kp h h1 S) (b : Ext h1 h2) : Kp h h2 S := a.trans' b fun _ h => h.elim
theorem Kp.mono {h h1 : DH} {S S1 : Nat → Prop} (a : Kp h h1 S) (i : ∀ x, S x → S1 x) : Kp h h1 S1 := ⟨a.n, fun b hb hs => a.get b hb fun h => hs (i b h), fun m h1 h2 h3 => a.low m h1 h2 fun b hb => h3 b (i b hb)⟩
theorem Kp.to_ext {h h1 : DH} {S : Nat → Prop} (a : Kp h h1 S) (i : ∀ x, S x → h.n ≤ x) : Ext h h1 := ⟨a.n, fun b hb _ => a.get b hb fun h => by have := i b h; omega, fun m h1 h2 _ => a.low m h1 h2 fun b hb => by have := i b hb; omega⟩
theorem Kp.push (h : DH) (k : DBlk) (S : Nat → Prop) : Kp h (h.push k) S := ⟨Nat.le_succ _, fun b hb _ => by rw [DH.get_push, if_neg (by omega)], fun m h1 _ _ => h1⟩
theorem Ext.push (h : DH) (k : DBlk) : Ext h (h.push k) := Kp.push h k _
theorem upd_low (h : DH) (b : Nat) (k : DBlk) : (h.upd b k).low = min h.low b := lesser_eq _ _
theorem Kp.upd {h : DH} {b : Nat} {S : Nat → Prop} (k : DBlk) (i : S b ∨ h.n ≤ b) : Kp h (h.upd b k) S := by
  refine ⟨Nat.le_refl _, fun x hx hs => ?_, fun m h1 h2 h3 => ?_⟩
  · rw [DH.get_upd, if_neg]
    rintro rfl
    rcases i with i | i
    · exact hs i
    · omega
  · rw [upd_low]
    have : m ≤ b := by
      rcases i with i | i
      · exact h3 b i
      · omega
    omega
theorem Has.kp {h h' : DH} {S : Nat → Prop} {b : Nat} {k : DBlk} (a : Has h b k) (f : Kp h h' S) (hs : ¬ S b) : Has h' b k := ⟨Nat.lt_of_lt_of_le a.1 f.n, (f.get b a.1 hs).trans a.2⟩
theorem Has.ext {h h' : DH} {b : Nat} {k : DBlk} (a : Has h b k) (f : Ext h h') : Has h' b k := a.kp f id
theorem Has.push_self (h : DH) (k : DBlk) : Has (h.push k) h.n k := ⟨Nat.lt_succ_self _, by rw [DH.get_push, if_pos rfl]⟩
theorem Has.upd_self {h : DH} {b : Nat} {k0 : DBlk} (a : Has h b k0) (k : DBlk) : Has (h.upd b k) b k := ⟨a.1, by rw [DH.get_upd, if_pos rfl]⟩
theorem Has.upd_ne {h : DH} {b c : Nat} {k0 : DBlk} (a : Has h b k0) (k : DBlk) (hn : b ≠ c) : Has (h.upd c k) b k0 := ⟨a.1, by rw [DH.get_upd, if_neg hn]; exact a.2⟩
theorem Has.inj {h : DH} {b : Nat} {k k' : DBlk} (a : Has h b k) (c : Has h b k') : k = k' := by have := a.2.symm.trans c.2; simpa using this
theorem Has.row {h : DH} {b : Nat} {c : List Value} {e : TypeId} {md : Md} (a : Has h b (.cells c e md)) : h.row b = some ⟨c, e, md⟩ := by unfold DH.row; rw [a.2]; rfl
theorem Has.ents {h : DH} {b : Nat} {es : List MapEntry} {cl : Nat} (a : Has h b (.map es cl)) : h.ents b = some ⟨es, cl⟩ := by unfold DH.ents; rw [a.2]; rfl
/-! a call's heap -/
theorem reset_get (h : DH) (b : Nat) : (reset h).get b = h.get b := rfl
theorem reset_n (h : DH) : (reset h).n = h.n := rfl
theorem Has.reset {h : DH} {b : Nat} {k : DBlk} (a : Has h b k) : Has (reset h) b k := a
theorem Has.lowered {h : DH} {b l : Nat} {k : DBlk} (a : Has h b k) : Has (lowered h l) b k := a
theorem lowered_low (h : DH) (l : Nat) : (lowered h l).low = min l h.low := lesser_eq _ _
theorem Kp.lowered {h h' : DH} {S : Nat → Prop} (f : Kp (reset h) h' S) : Kp h (lowered h' h.low) S := by
  refine ⟨f.n, f.get, fun m h1 h2 h3 => ?_⟩
  rw [lowered_low]
  have : m ≤ h'.low := f.low m (show m ≤ h.n from h2) h2 h3
  omega
theorem Ext.foot {h h' : DH} (f : Ext (reset h) h') : callFoot h h' = ⟨none, .none⟩ := by
  have : h.n ≤ h'.low := f.low h.n (Nat.le_refl _) (Nat.le_refl _) fun b hb => hb.elim
  unfold callFoot
  rw [show Nat.ble h.n h'.low = true from Nat.ble_eq_true_of_le this]; rfl
theorem foot_rd {h h' : DH} {l : List Nat} (k : ∀ b, b ∈ l → b < h.n → h'.get b = h.get b) : either (callFoot h h') ⟨some l, .none⟩ = true ∧ either ⟨some l, .none⟩ (callFoot h h') = true := by
  have hm : meets (some l) (callFoot h h').wr = false := by
    unfold callFoot
    cases Nat.ble h.n h'.low with
    | true => rfl
    | false =>
      show @decide (∃ c, c ∈ l ∧ c < h.n ∧ h'.get c ≠ h.get c) (Classical.propDecidable _) = false
      refine @decide_eq_false _ (Classical.propDecidable _) ?_
      rintro ⟨c, h1, h2, h3⟩
      exact h3 (k c h1 h2)
  have hc : ∀ w, clash .none w = false := fun w => by cases w <;> rfl
  have hc' : ∀ w, clash w .none = false := fun w => by cases w <;> rfl
  unfold either
  simp only [hm, hc, hc']
  cases (callFoot h h').rd <;> exact ⟨rfl, rfl⟩
theorem Kp.foot {h h' : DH} {S : Nat → Prop} (f : Kp (reset h) h' S) (i : ∀ x, S x → h.n ≤ x) : callFoot h h' = ⟨none, .none⟩ := (f.to_ext i).foot

/-! ### Values -/
@[simp] theorem nilc_ptr (a : Addr) : nilc (.pointer (some a)) = some (.pointer (some a)) := rfl
@[simp] theorem nilc_fn (g : FuncId) (x y : Array Value) : nilc (.func (.func g) x y) = some (.func (.func g) x y) := rfl
@[simp] theorem fa_ptr (off b o : Nat) : fa off (.pointer (some ⟨b, o, none⟩)) = some (.pointer (some ⟨b, o + off, none⟩)) := rfl
theorem ld1_ptr (h : DH) (b o : Nat) : ld1 h (.pointer (some ⟨b, o, none⟩)) = ob (h.row b) fun r => lget r.c o := rfl
theorem ldN_ptr (s : Nat) (h : DH) (b o : Nat) : ldN s h (.pointer (some ⟨b, o, none⟩)) = ob (h.row b) fun r => ob (cut r.c o s) fun l => some (.agg ⟨l⟩) := rfl
theorem ld1_has {h : DH} {b o : Nat} {c : List Value} {e : TypeId} {md : Md} {v : Value} (a : Has h b (.cells c e md)) (hc : c[o]? = some v) : ld1 h (.pointer (some ⟨b, o, none⟩)) = some v := by
  rw [ld1_ptr, a.row, ob_some, lget_eq, hc]
theorem cut_ok {α : Type} {c : List α} {o s : Nat} (h : o + s ≤ c.length) : cut c o s = some ((c.drop o).take s) := by
  have hl : ((c.drop o).take s).length = s := by rw [List.length_take, List.length_drop]; omega
  unfold cut
  show guard' (Nat.beq (llen (ltake (ldrop c o) s)) s) (some (ltake (ldrop c o) s)) = _
  rw [ltake_eq, ldrop_eq, llen_eq, hl, Nat.beq_refl, guard'_true]
theorem cut_mid {α : Type} {c pre x post : List α} {o s : Nat} (h : c = pre ++ x ++ post) (ho : pre.length = o) (hs : x.length = s) : cut c o s = some x := by
  subst h; subst ho; subst hs
  rw [cut_ok (by simp)]
  simp
theorem ldN_has {h : DH} {b o s : Nat} {c : List Value} {e : TypeId} {md : Md} {l : List Value} (a : Has h b (.cells c e md)) (hc : cut c o s = some l) : ldN s h (.pointer (some ⟨b, o, none⟩)) = some (.agg ⟨l⟩) := by
  rw [ldN_ptr, a.row, ob_some, hc, ob_some]
@[simp] theorem asB_bool (b : Bool) : asB (.bool b) = some b := rfl
@[simp] theorem bnot_bool (b : Bool) : bnot (.bool b) = some (.bool !b) := by cases b <;> rfl
@[simp] theorem gotB_true (b : Bool) : gotB (.bool b) true = some b := by cases b <;> rfl
@[simp] theorem gotB_false (b : Bool) : gotB (.bool b) false = some (!b) := by cases b <;> rfl
@[simp] theorem gotB_undef (b : Bool) : gotB undef b = some false := rfl
@[simp] theorem pk_bool (b : Bool) (x y : Value) : pk (.bool b) x y = some (sel b x y) := rfl
@[simp] theorem lenS_sl (a : Option Addr) (l c : Nat) : lenS (.slice a l c) = some (.int .i64 (l : Int)) := rfl
@[simp] theorem lenStr_str (s : ByteArray) : lenStr (.string s) = some (.int .i64 (s.size : Int)) := rfl
@[simp] theorem asSl_sl (a : Option Addr) (l c : Nat) : asSl (.slice a l c) = some ⟨a, l, c⟩ := rfl
@[simp] theorem natOf_nat (k : IntKind) (n : Nat) : natOf (.int k (n : Int)) = some n := rfl
@[simp] theorem natOf_lit (k : IntKind) (n : Nat) : natOf (.int k (no_index (OfNat.ofNat n) : Int)) = some n := rfl
theorem sameKind_refl (k : IntKind) : sameKind k k = true := by cases k <;> rfl
section ints
variable {k : IntKind} {a b : Int}
theorem ibin_go (op : BinOp) : ibin op (.int k a) (.int k b) = dint op k a b := by
  show guard' (sameKind k k) _ = _
  rw [sameKind_refl]; rfl
@[simp] theorem ibin_lss : ibin .lss (.int k a) (.int k b) = some (.bool (decide (a < b))) := by
  rw [ibin_go]; show some (Value.bool (sel (ile b a) false true)) = _
  rw [ile_eq, sel_not, ← decide_not]; congr 2; exact decide_eq_decide.2 (by omega)
@[simp] theorem ibin_gtr : ibin .gtr (.int k a) (.int k b) = some (.bool (decide (b < a))) := by
  rw [ibin_go]; show some (Value.bool (sel (ile a b) false true)) = _
  rw [ile_eq, sel_not, ← decide_not]; congr 2; exact decide_eq_decide.2 (by omega)
@[simp] theorem ibin_leq : ibin .leq (.int k a) (.int k b) = some (.bool (decide (a ≤ b))) := by
  rw [ibin_go]; show some (Value.bool (ile a b)) = _
  rw [ile_eq]
@[simp] theorem ibin_geq : ibin .geq (.int k a) (.int k b) = some (.bool (decide (b ≤ a))) := by
  rw [ibin_go]; show some (Value.bool (ile b a)) = _
  rw [ile_eq]
@[simp] theorem ibin_eql : ibin .eql (.int k a) (.int k b) = some (.bool (decide (a = b))) := by
  rw [ibin_go]; show some (Value.bool (ieq a b)) = _
  rw [ieq_eq]; rfl
@[simp] theorem ibin_neq : ibin .neq (.int k a) (.int k b) = some (.bool (!decide (a = b))) := by
  rw [ibin_go]; show some (Value.bool (sel (ieq a b) false true)) = _
  rw [ieq_eq, sel_not]; rfl
theorem ibin_add (h1 : -9223372036854775808 ≤ a + b) (h2 : a + b ≤ 9223372036854775807) : ibin .add (.int .i64 a) (.int .i64 b) = some (.int .i64 (a + b)) := by
  rw [ibin_go]; show some (Value.int .i64 (wrapF .i64 (iadd a b))) = _
  rw [iadd_eq, wrapF_eq, IntWalk.i64_in _ ⟨h1, h2⟩]
theorem ibin_sub (h1 : -9223372036854775808 ≤ a - b) (h2 : a - b ≤ 9223372036854775807) : ibin .sub (.int .i64 a) (.int .i64 b) = some (.int .i64 (a - b)) := by
  rw [ibin_go]; show some (Value.int .i64 (wrapF .i64 (isub a b))) = _
  rw [isub_eq, wrapF_eq, IntWalk.i64_in _ ⟨h1, h2⟩]
theorem ibin_mul (h1 : -9223372036854775808 ≤ a * b) (h2 : a * b ≤ 9223372036854775807) : ibin .mul (.int .i64 a) (.int .i64 b) = some (.int .i64 (a * b)) := by
  rw [ibin_go]; show some (Value.int .i64 (wrapF .i64 (a * b))) = _
  rw [wrapF_eq, IntWalk.i64_in _ ⟨h1, h2⟩]
end ints
/-- One more. -/
theorem ibin_inc {n : Nat} (h : n < 9223372036854775807) : ibin .add (.int .i64 (n : Int)) (.int .i64 1) = some (.int .i64 ((n + 1 : Nat) : Int)) := by
  rw [ibin_add (by omega) (by omega)]; rfl
theorem ibin_addN {n m : Nat} (h : n + m < 9223372036854775808) : ibin .add (.int .i64 (n : Int)) (.int .i64 (m : Int)) = some (.int .i64 ((n + m : Nat) : Int)) := by
  rw [ibin_add (by omega) (by omega)]; simp
theorem ibin_dec {n : Nat} (h : n < 9223372036854775807) : ibin .sub (.int .i64 ((n + 1 : Nat) : Int)) (.int .i64 1) = some (.int .i64 (n : Int)) := by
  rw [ibin_sub (by omega) (by omega)]; congr 2; omega
theorem ibin_subN {n m : Nat} (h : m ≤ n) (h' : n < 9223372036854775808) : ibin .sub (.int .i64 (n : Int)) (.int .i64 (m : Int)) = some (.int .i64 ((n - m : Nat) : Int)) := by
  rw [ibin_sub (by omega) (by omega)]; congr 2; omega
theorem idiv_rem {n m : Nat} (h : 0 < m) : idiv .rem (.int .i64 (n : Int)) (.int .i64 (m : Int)) = some (.int .i64 ((n % m : Nat) : Int)) := by
  show guard' (sel (sameKind .i64 .i64) (sel (ieq (m : Int) 0) false true) false) (some (Value.int .i64 ((n : Int).tmod (m : Int)))) = _
  rw [ieq_eq, show ((m : Int) == 0) = false from by simp; omega]
  show some _ = _
  congr 2
end Go.Det
end
/- Slices of a heap of the reading: read, made, grown. -/
set_option linter.unusedVariables false
set_option linter.unusedSimpArgs false
noncomputable section
namespace Go.Det
variable {P : Program}

/-- A slice that holds these elements, each of so many cells. -/
def RowsAt (h : DH) (v : Value) (e : TypeId) (s : Nat) (rows : List (List Value)) : Prop :=
  (v = .slice none 0 0 ∧ rows = []) ∨ ∃ b o cap pre post md, v = .slice (some ⟨b, o, none⟩) rows.length cap ∧ rows.length ≤ cap ∧ Has h b (.cells (pre ++ rows.flatten ++ post) e md) ∧ pre.length = o ∧ ∀ r, r ∈ rows → r.length = s
theorem RowsAt.nil (h : DH) (e : TypeId) (s : Nat) : RowsAt h (.slice none 0 0) e s [] := .inl ⟨rfl, rfl⟩
theorem RowsAt.len {h : DH} {v : Value} {e : TypeId} {s : Nat} {rows : List (List Value)} (a : RowsAt h v e s rows) : lenS v = some (.int .i64 (rows.length : Int)) := by
  rcases a with ⟨rfl, rfl⟩ | ⟨b, o, cap, pre, post, md, rfl, _⟩ <;> rfl
theorem RowsAt.kp {h h' : DH} {S : Nat → Prop} {v : Value} {e : TypeId} {s : Nat} {rows : List (List Value)} (a : RowsAt h v e s rows) (f : Kp h h' S) (hs : ∀ b, b ∈ blockOf v → ¬ S b) : RowsAt h' v e s rows := by
  rcases a with ⟨rfl, rfl⟩ | ⟨b, o, cap, pre, post, md, rfl, h1, h2, h3⟩
  · exact .inl ⟨rfl, rfl⟩
  · exact .inr ⟨b, o, cap, pre, post, md, rfl, h1, h2.kp f (hs b (by simp [blockOf])), h3⟩
theorem RowsAt.ext {h h' : DH} {v : Value} {e : TypeId} {s : Nat} {rows : List (List Value)} (a : RowsAt h v e s rows) (f : Ext h h') : RowsAt h' v e s rows := a.kp f fun _ _ => id
/-- Blocks of unlike rows are not the same. -/
theorem RowsAt.kp1 {h h' : DH} {pb : Nat} {c : List Value} {e e' : TypeId} {md : Md} {v : Value} {s : Nat} {rows : List (List Value)} (a : RowsAt h v e s rows) (hp : Has h pb (.cells c e' md)) (hne : e ≠ e') (f : Kp h h' (· = pb)) : RowsAt h' v e s rows := by
  refine a.kp f ?_
  rcases a with ⟨rfl, rfl⟩ | ⟨b, o, cap, pre, post, md', rfl, h1, h2, h3⟩
  · intro b hb; simp [blockOf] at hb
  · intro b' hb hs
    simp [blockOf] at hb
    subst hb; subst hs
    have := h2.inj hp
    simp only [DBlk.cells.injEq] at this
    exact hne this.2.1
theorem flatten_at {rows : List (List Value)} {s : Nat} (hs : ∀ r, r ∈ rows → r.length = s) {j : Nat} {r : List Value} (hj : rows[j]? = some r) :
    ∃ post, rows.flatten = (rows.take j).flatten ++ r ++ post ∧ ((rows.take j).flatten).length = j * s := by
  have hlt : j < rows.length := (List.getElem?_eq_some_iff.1 hj).1
  refine ⟨(rows.drop (j + 1)).flatten, ?_, ?_⟩
  · have h1 : rows = rows.take j ++ r :: rows.drop (j + 1) := by
      have := List.take_append_drop j rows
      rw [List.drop_eq_getElem_cons hlt] at this
      have hr : rows[j] = r := by rw [List.getElem?_eq_getElem hlt] at hj; simpa using hj
      rw [hr] at this
      exact this.symm
    conv => lhs; rw [h1]
    simp
  · have : ∀ (l : List (List Value)), (∀ r, r ∈ l → r.length = s) → l.flatten.length = l.length * s := by
      intro l
      induction l with
      | nil => intro _; simp
      | cons a l ih =>
        intro hl
        rw [List.flatten_cons, List.length_append, ih fun r hr => hl r (List.mem_cons_of_mem _ hr), hl a (List.mem_cons_self ..), List.length_cons, Nat.add_mul]
        omega
    rw [this _ fun r hr => hs r (List.mem_of_mem_take hr), List.length_take, Nat.min_eq_left (by omega)]
/-- An element's place, and what lies there. -/
theorem RowsAt.at_ {h : DH} {v : Value} {e : TypeId} {s : Nat} {rows : List (List Value)} (a : RowsAt h v e s rows) {k : IntKind} {j : Nat} {r : List Value} (hj : rows[j]? = some r) :
    ∃ b q c md, iaS s v (.int k (j : Int)) = some (.pointer (some ⟨b, q, none⟩)) ∧ b ∈ blockOf v ∧ Has h b (.cells c e md) ∧ cut c q s = some r ∧ r.length = s ∧ ∀ i, i < s → c[q + i]? = r[i]? := by
  have hlt : j < rows.length := (List.getElem?_eq_some_iff.1 hj).1
  rcases a with ⟨rfl, rfl⟩ | ⟨b, o, cap, pre, post, md, rfl, h1, h2, h3, h4⟩
  · simp at hlt
  · obtain ⟨post', h5, h6⟩ := flatten_at h4 hj
    have hr : r.length = s := h4 r (List.mem_of_getElem? hj)
    have hc : pre ++ rows.flatten ++ post = (pre ++ (rows.take j).flatten) ++ r ++ (post' ++ post) := by rw [h5]; simp
    have hp : (pre ++ (rows.take j).flatten).length = o + j * s := by rw [List.length_append, h6, h3]
    refine ⟨b, o + j * s, _, md, ?_, by simp [blockOf], h2, cut_mid hc hp hr, hr, fun i hi => ?_⟩
    · show guard' (Nat.blt j rows.length) _ = _
      rw [show Nat.blt j rows.length = true from Nat.ble_eq_true_of_le hlt]; rfl
    · rw [hc, ← hp, List.append_assoc, List.getElem?_append_right (by omega), Nat.add_sub_cancel_left, List.getElem?_append_left (by omega)]
theorem RowsAt.appended {h : DH} {v : Value} {e : TypeId} {s : Nat} {rows : List (List Value)} (a : RowsAt h v e s rows) : appendedSl h s v = some (rows.length, rows.flatten) := by
  rcases a with ⟨rfl, rfl⟩ | ⟨b, o, cap, pre, post, md, rfl, h1, h2, h3, h4⟩
  · rfl
  · show (sel (Nat.beq rows.length 0) (some (0, [])) (ob (h.row b) fun r => ob (cut r.c o (Nat.mul rows.length s)) fun l => some (rows.length, l))) = _
    by_cases h0 : rows.length = 0
    · have : rows = [] := List.eq_nil_of_length_eq_zero h0
      subst this; rfl
    · rw [PM.beq_false h0, sel_false, h2.row, ob_some]
      have hl : rows.flatten.length = rows.length * s := by
        obtain ⟨x, hx⟩ : ∃ x, rows = x := ⟨_, rfl⟩
        clear h2
        revert h4
        clear hx
        induction rows with
        | nil => intro _; simp
        | cons a l ih =>
          intro hl
          by_cases hz : l.length = 0
          · have : l = [] := List.eq_nil_of_length_eq_zero hz
            subst this
            simp [hl a (List.mem_cons_self ..)]
          · rw [List.flatten_cons, List.length_append, ih (by simp at h1; omega) hz fun r hr => hl r (List.mem_cons_of_mem _ hr), hl a (List.mem_cons_self ..), List.length_cons, Nat.add_mul]
            omega
      show ob (cut (pre ++ rows.flatten ++ post) o (rows.length * s)) _ = _
      rw [cut_mid rfl h3 hl, ob_some]

/-! ### A slice that grows, all of its block -/
def Grow (h : DH) (v : Value) (e : TypeId) (s : Nat) (rows : List (List Value)) (n0 : Nat) : Prop :=
  (v = .slice none 0 0 ∧ rows = []) ∨ ∃ b md, v = .slice (some ⟨b, 0, none⟩) rows.length rows.length ∧ n0 ≤ b ∧ Has h b (.cells rows.flatten e md) ∧ isRo md = false ∧ ∀ r, r ∈ rows → r.length = s
theorem Grow.nil (h : DH) (e : TypeId) (s n0 : Nat) : Grow h (.slice none 0 0) e s [] n0 := .inl ⟨rfl, rfl⟩
theorem Grow.rows {h : DH} {v : Value} {e : TypeId} {s n0 : Nat} {rows : List (List Value)} (a : Grow h v e s rows n0) : RowsAt h v e s rows := by
  rcases a with ⟨rfl, rfl⟩ | ⟨b, md, rfl, h1, h2, h3, h4⟩
  · exact .inl ⟨rfl, rfl⟩
  · exact .inr ⟨b, 0, rows.length, [], [], md, rfl, Nat.le_refl _, by simpa using h2, rfl, h4⟩
theorem Grow.block {h : DH} {v : Value} {e : TypeId} {s n0 : Nat} {rows : List (List Value)} (a : Grow h v e s rows n0) : ∀ b, b ∈ blockOf v → n0 ≤ b ∧ b < h.n := by
  intro b hb
  rcases a with ⟨rfl, rfl⟩ | ⟨b', md, rfl, h1, h2, h3, h4⟩
  · simp [blockOf] at hb
  · simp [blockOf] at hb; subst hb; exact ⟨h1, h2.1⟩
theorem Grow.kp {h h' : DH} {S : Nat → Prop} {v : Value} {e : TypeId} {s n0 : Nat} {rows : List (List Value)} (a : Grow h v e s rows n0) (f : Kp h h' S) (hs : ∀ b, b ∈ blockOf v → ¬ S b) : Grow h' v e s rows n0 := by
  rcases a with ⟨rfl, rfl⟩ | ⟨b, md, rfl, h1, h2, h3⟩
  · exact .inl ⟨rfl, rfl⟩
  · exact .inr ⟨b, md, rfl, h1, h2.kp f (hs b (by simp [blockOf])), h3⟩
theorem Grow.ext {h h' : DH} {v : Value} {e : TypeId} {s n0 : Nat} {rows : List (List Value)} (a : Grow h v e s rows n0) (f : Ext h h') : Grow h' v e s rows n0 := a.kp f fun _ _ => id
theorem Grow.mono {h : DH} {v : Value} {e : TypeId} {s n0 n1 : Nat} {rows : List (List Value)} (a : Grow h v e s rows n0) (hn : n1 ≤ n0) : Grow h v e s rows n1 := by
  rcases a with ⟨rfl, rfl⟩ | ⟨b, md, rfl, h1, h2, h3⟩
  · exact .inl ⟨rfl, rfl⟩
  · exact .inr ⟨b, md, rfl, by omega, h2, h3⟩
theorem appS_grow {h : DH} {sl x : Value} {e : TypeId} {by_ s n0 : Nat} {rows new : List (List Value)} {F : Value → DH → Prop} (hg : Grow h sl e s rows n0) (hn0 : n0 ≤ h.n) (hx : appendedSl h s x = some (new.length, new.flatten)) (hl : ∀ r, r ∈ new → r.length = s)
    (hok : lall okCell new.flatten = true) (hr : room (rows.length + new.length) by_ s = true)
    (K : ∀ v' h', Grow h' v' e s (rows ++ new) n0 → Kp h h' (fun b => b ∈ blockOf sl) → (∀ b, b ∈ blockOf v' → b ∈ blockOf sl ∨ h.n ≤ b) → F v' h') : oh (appS e by_ s h sl x) F := by
  have hall : ∀ r, r ∈ rows ++ new → (∀ r, r ∈ rows → r.length = s) → r.length = s := fun r hr hrow => by
    rcases List.mem_append.1 hr with h1 | h1
    · exact hrow r h1
    · exact hl r h1
  by_cases hn : new.length = 0
  · have : new = [] := List.eq_nil_of_length_eq_zero hn
    subst this
    have key : appS e by_ s h sl x = some (sl, h) := by
      rcases hg with ⟨rfl, rfl⟩ | ⟨b, md, rfl, h1, h2, h3, h4⟩
      · show (guard' true (ob (appendedSl h s x) _)) = _
        rw [hx]; rfl
      · show (guard' (Nat.ble rows.length rows.length) (ob (appendedSl h s x) _)) = _
        rw [hx, show Nat.ble rows.length rows.length = true from Nat.ble_eq_true_of_le (Nat.le_refl _)]; rfl
    rw [key]
    exact K sl h (by simpa using hg) (Kp.refl _ _) fun b hb => .inl hb
  · rcases hg with ⟨rfl, rfl⟩ | ⟨b, md, rfl, h1, h2, h3, h4⟩
    · have key : appS e by_ s h (.slice none 0 0) x = some (.slice (some ⟨h.n, 0, none⟩) new.length new.length, h.push (.cells new.flatten e .loose)) := by
        show (guard' true (ob (appendedSl h s x) _)) = _
        rw [hx]
        show dappGo h e by_ s (.slice none 0 0) new.length new.flatten = _
        unfold dappGo
        rw [PM.beq_false hn, sel_false]
        show guard' (room new.length by_ s) _ = _
        simp only [List.length_nil, Nat.zero_add] at hr
        rw [hr]; rfl
      rw [key]
      exact K _ _ (.inr ⟨h.n, .loose, by simp, hn0, Has.push_self h _, rfl, fun r hr => hl r (by simpa using hr)⟩) (Kp.push h _ _) fun b hb => by simp [blockOf] at hb; exact .inr (by omega)
    · have hrow := h2.row
      have hcut : cut rows.flatten 0 (rows.length * s) = some rows.flatten := by
        have hh : RowsAt h (.slice (some ⟨b, 0, none⟩) rows.length rows.length) e s rows := Grow.rows (n0 := n0) (.inr ⟨b, md, rfl, h1, h2, h3, h4⟩)
        have := hh.appended
        by_cases h0 : rows.length = 0
        · have : rows = [] := List.eq_nil_of_length_eq_zero h0
          subst this; rw [show ([] : List (List Value)).length * s = 0 from Nat.zero_mul s]; rfl
        · have this : (sel (Nat.beq rows.length 0) (some (0, [])) (ob (h.row b) fun r => ob (cut r.c 0 (Nat.mul rows.length s)) fun l => some (rows.length, l))) = some (rows.length, rows.flatten) := this
          rw [PM.beq_false h0, sel_false, hrow, ob_some] at this
          obtain ⟨l, e1, e2⟩ := ob_eq_some.1 this
          simp only [Option.some.injEq, Prod.mk.injEq] at e2
          rw [e2.2] at e1
          exact e1
      have hle : Nat.ble (rows.length + new.length) rows.length = false := by
        cases hh : Nat.ble (rows.length + new.length) rows.length
        · rfl
        · have := Nat.le_of_ble_eq_true hh; omega
      have hbb : Nat.beq e e = true := Nat.beq_refl e
      have pre : appS e by_ s h (.slice (some ⟨b, 0, none⟩) rows.length rows.length) x = dappGrow h e s rows.length new.length ⟨b, 0⟩ ⟨rows.flatten, e, md⟩ new.flatten := by
        show (guard' (Nat.ble rows.length rows.length) (ob (appendedSl h s x) _)) = _
        rw [hx, show Nat.ble rows.length rows.length = true from Nat.ble_eq_true_of_le (Nat.le_refl _), guard'_true, ob_some]
        show dappGo h e by_ s _ new.length new.flatten = _
        unfold dappGo
        rw [PM.beq_false hn, sel_false]
        have hnil : isNilSl (.slice (some ⟨b, 0, none⟩) rows.length rows.length) = false := rfl
        rw [hnil, sel_false]
        show dappRow h e by_ s rows.length new.length rows.length ⟨b, 0⟩ new.flatten = _
        unfold dappRow
        rw [hrow, ob_some]
        show guard' (sel (room (rows.length + new.length) by_ s) (Nat.beq e e) false) (sel (Nat.ble (rows.length + new.length) rows.length) _ _) = _
        rw [hr, hbb, hle]; rfl
      rw [pre]
      unfold dappGrow
      show oh (ob (cut rows.flatten 0 (rows.length * s)) _) F
      rw [hcut, ob_some, lapp_eq]
      have hfl : rows.flatten ++ new.flatten = (rows ++ new).flatten := by simp
      cases md with
      | ro => cases h3
      | exact =>
        refine K _ _ (.inr ⟨h.n, .loose, by simp [Nat.add_comm], by have := h2.1; omega, ?_, rfl, fun r hr => hall r hr h4⟩) (Kp.push h _ _) fun c hc => by simp [blockOf] at hc; exact .inr (by omega)
        rw [← hfl]; exact Has.push_self h _
      | loose =>
        show oh (guard' (lall okCell new.flatten) _) F
        rw [hok, guard'_true]
        refine K _ _ (.inr ⟨h.n, .loose, by simp [Nat.add_comm], by have := h2.1; omega, ?_, rfl, fun r hr => hall r hr h4⟩) ?_ fun c hc => by simp [blockOf] at hc; exact .inr (by have : (h.upd b .dead).n = h.n := rfl; omega)
        · rw [← hfl]; exact Has.push_self (h.upd b .dead) _
        · exact (Kp.upd .dead (.inl (by simp [blockOf]))).trans (Kp.push _ _ _)
/-! ### Making -/
theorem bldSl_ok {h : DH} {e : TypeId} {s len : Nat} {z cs : List Value} {qs : List ((Nat × Nat) × Value)} {F : Value → DH → Prop} (ht : lall noTopQ qs = true) (hl : Nat.ble (Nat.mul len s) (2 ^ 24) = true) (hf : fillE qs (lrep z len) = some cs)
    (K : F (.slice (some ⟨h.n, 0, none⟩) len len) (h.push (.cells cs e .exact))) : oh (bldSl e s len z qs h) F := by
  unfold bldSl
  rw [ht, hl, hf]; exact K
theorem mkS_ok {h : DH} {e : TypeId} {s by_ l c : Nat} {k k' : IntKind} {z : List Value} {F : Value → DH → Prop} (hl : l ≤ c) (hc : c ≤ 2 ^ 47) (hb : by_ * c ≤ 2 ^ 47)
    (K : F (.slice (some ⟨h.n, 0, none⟩) l c) (h.push (.cells (lrep z c) e .exact))) : oh (mkS e s by_ z h (.int k (l : Int)) (.int k' (c : Int))) F := by
  unfold mkS
  show oh (guard' (sel (Nat.ble l c) (sel (Nat.ble c (2 ^ 47)) (Nat.ble (Nat.mul by_ c) (2 ^ 47)) false) false) _) F
  rw [show Nat.ble l c = true from Nat.ble_eq_true_of_le hl, show Nat.ble c (2 ^ 47) = true from Nat.ble_eq_true_of_le hc, show Nat.ble (Nat.mul by_ c) (2 ^ 47) = true from Nat.ble_eq_true_of_le hb]
  exact K
theorem bx_ok {h : DH} {t : TypeId} {v : Value} {F : Value → DH → Prop} (h1 : isTup v = false) (h2 : isTopv v = false) (K : F (.pointer (some ⟨h.n, 0, none⟩)) (h.push (.cells (cellsOfV v) t .exact))) : oh (bx t h v) F := by
  unfold bx
  rw [h1, h2]; exact K
@[simp] theorem al_ok (t : TypeId) (z : List Value) (h : DH) : al t z h = some (.pointer (some ⟨h.n, 0, none⟩), h.push (.cells z t .exact)) := rfl
@[simp] theorem mkM_ok (h : DH) : mkM h = some (.map (some h.n), h.push (.map [] 0)) := rfl
/-- A store into a block. -/
theorem st_ok {h : DH} {s b o : Nat} {c c' : List Value} {e : TypeId} {md : Md} {v : Value} {F : DH → Prop} (a : Has h b (.cells c e md)) (hm : isRo md = false) (h1 : isTup v = false) (h2 : isTopv v = false) (h3 : (cellsOfV v).length = s) (h4 : o + s ≤ c.length) (h5 : lall okCell (cellsOfV v) = true)
    (he : c' = c.take o ++ cellsOfV v ++ c.drop (o + s)) (K : F (h.upd b (.cells c' e md))) : obP (st s h (.pointer (some ⟨b, o, none⟩)) v) F := by
  subst he
  unfold st
  show obP (guard' (sel (isTup v) false (sel (isTopv v) false (Nat.beq (llen (cellsOfV v)) s))) (dput h b o (cellsOfV v))) F
  rw [h1, h2, llen_eq, h3, sel_false, sel_false, Nat.beq_refl, guard'_true]
  unfold dput
  rw [a.row, ob_some, hm]
  show obP (guard' (sel false false (sel (Nat.ble (o + llen (cellsOfV v)) (llen c)) (lall okCell (cellsOfV v)) false)) _) F
  rw [llen_eq, llen_eq, h3, show Nat.ble (o + s) c.length = true from Nat.ble_eq_true_of_le h4, h5, splice_eq c o _ (by rw [h3]; exact h4), h3]
  exact K
end Go.Det
end
/- Frames told by kinds: what may be turned, by the kind of its cells. -/
set_option linter.unusedVariables false
set_option linter.unusedSimpArgs false
noncomputable section
namespace Go.Det
variable {P : Program}

abbrev mapTy : Nat := 0
def tyOf : DBlk → Option Nat
  | .cells _ e _ => some e
  | .map _ _ => some mapTy
  | .dead => none
def TyS (h : DH) (ts : List Nat) (b : Nat) : Prop := ∃ k t, h.get b = some k ∧ tyOf k = some t ∧ t ∈ ts
/-- Blocks of the kinds 'o', and of those from n0 on ones of the kinds 'ts', may be turned. -/
def KS (n0 : Nat) (o ts : List Nat) (h h' : DH) : Prop := Kp h h' fun b => TyS h o b ∨ (n0 ≤ b ∧ TyS h ts b)
theorem KS.refl (n0 : Nat) (o ts : List Nat) (h : DH) : KS n0 o ts h h := Kp.refl _ _
theorem KS.mono {n0 : Nat} {o ts o' ts' : List Nat} {h h' : DH} (a : KS n0 o ts h h') (i : ∀ x, x ∈ o → x ∈ o') (j : ∀ x, x ∈ ts → x ∈ ts') : KS n0 o' ts' h h' :=
  Kp.mono a fun b hb => by
    rcases hb with ⟨k, t, h1, h2, h3⟩ | ⟨h0, k, t, h1, h2, h3⟩
    · exact .inl ⟨k, t, h1, h2, i t h3⟩
    · exact .inr ⟨h0, k, t, h1, h2, j t h3⟩
theorem KS.trans {n0 : Nat} {o ts : List Nat} {h h1 h2 : DH} (a : KS n0 o ts h h1) (b : KS n0 o ts h1 h2) : KS n0 o ts h h2 := by
  have key : ∀ x, x < h.n → ¬ (TyS h o x ∨ (n0 ≤ x ∧ TyS h ts x)) → (TyS h1 o x ∨ (n0 ≤ x ∧ TyS h1 ts x)) → False := by
    intro x hx hn hy
    have he := a.get x hx hn
    rcases hy with ⟨k, t, g1, g2, g3⟩ | ⟨g0, k, t, g1, g2, g3⟩
    · exact hn (.inl ⟨k, t, he ▸ g1, g2, g3⟩)
    · exact hn (.inr ⟨g0, k, t, he ▸ g1, g2, g3⟩)
  refine ⟨Nat.le_trans a.n b.n, fun x hx hs => ?_, fun m m1 m2 m3 => b.low m (a.low m m1 m2 m3) (Nat.le_trans m2 a.n) fun x hx => ?_⟩
  · rw [b.get x (Nat.lt_of_lt_of_le hx a.n) fun hy => key x hx hs hy, a.get x hx hs]
  · rcases Nat.lt_or_ge x h.n with hlt | hge
    · by_cases hs : TyS h o x ∨ (n0 ≤ x ∧ TyS h ts x)
      · exact m3 x hs
      · exact (key x hlt hs hx).elim
    · omega
theorem KS.ext {n0 : Nat} {o ts : List Nat} {h h' : DH} (f : Ext h h') : KS n0 o ts h h' := Kp.mono f fun _ hb => hb.elim
theorem KS.push {n0 : Nat} {o ts : List Nat} (h : DH) (k : DBlk) : KS n0 o ts h (h.push k) := Kp.push h k _
theorem TyS.of {h : DH} {b : Nat} {k : DBlk} {t : Nat} {ts : List Nat} (a : Has h b k) (ht : tyOf k = some t) (hm : t ∈ ts) : TyS h ts b := ⟨k, t, a.2, ht, hm⟩
theorem KS.upd {n0 : Nat} {o ts : List Nat} {h : DH} {b : Nat} {c : List Value} {e : TypeId} {md : Md} (k : DBlk) (a : Has h b (.cells c e md)) (hn : n0 ≤ b) (he : e ∈ ts) : KS n0 o ts h (h.upd b k) := Kp.upd k (.inl (.inr ⟨hn, .of a rfl he⟩))
theorem KS.updO {n0 : Nat} {o ts : List Nat} {h : DH} {b : Nat} {c : List Value} {e : TypeId} {md : Md} (k : DBlk) (a : Has h b (.cells c e md)) (he : e ∈ o) : KS n0 o ts h (h.upd b k) := Kp.upd k (.inl (.inl (.of a rfl he)))
theorem KS.updM {n0 : Nat} {o ts : List Nat} {h : DH} {b : Nat} {es : List MapEntry} {cl : Nat} (k : DBlk) (a : Has h b (.map es cl)) (hn : n0 ≤ b) (he : mapTy ∈ ts) : KS n0 o ts h (h.upd b k) := Kp.upd k (.inl (.inr ⟨hn, .of a rfl he⟩))
/-- A slice that grew. -/
theorem KS.grow {n0 : Nat} {o ts : List Nat} {h h' : DH} {sl : Value} {e : TypeId} {s : Nat} {rows : List (List Value)} (a : Grow h sl e s rows n0) (f : Kp h h' (fun b => b ∈ blockOf sl)) (he : e ∈ ts) : KS n0 o ts h h' := by
  refine Kp.mono f fun b hb => .inr ⟨(a.block b hb).1, ?_⟩
  rcases a with ⟨rfl, rfl⟩ | ⟨b', md, rfl, h1, h2, h3, h4⟩
  · simp [blockOf] at hb
  · simp [blockOf] at hb; subst hb; exact .of h2 rfl he
/-- Of what a function that began with n0 blocks turned nothing older is touched. -/
theorem KS.out {o ts : List Nat} {n1 : Nat} {h h' : DH} (a : KS h.n o ts h h') : KS n1 o [] h h' := by
  refine ⟨a.n, fun b hb hs => a.get b hb fun hx => ?_, fun m m1 m2 m3 => a.low m m1 m2 fun x hx => ?_⟩
  · rcases hx with hx | hx
    · exact hs (.inl hx)
    · omega
  · rcases hx with hx | hx
    · exact m3 x (.inl hx)
    · omega
theorem KS.toExt {n0 : Nat} {ts : List Nat} {h h' : DH} (a : KS n0 [] ts h h') (hn : h.n ≤ n0) : Ext h h' := Kp.to_ext a fun b hb => by
  rcases hb with ⟨k, t, g1, g2, g3⟩ | ⟨g0, _⟩
  · cases g3
  · omega
/-- The beginning moved back. -/
theorem KS.from {n0 n1 : Nat} {o ts : List Nat} {h h' : DH} (a : KS n1 o ts h h') (hn : n0 ≤ n1) : KS n0 o ts h h' := Kp.mono a fun b hb => by
  rcases hb with hb | ⟨g, hb⟩
  · exact .inl hb
  · exact .inr ⟨by omega, hb⟩
theorem KS.call {n0 : Nat} {o ts : List Nat} {h h' : DH} (a : KS n0 o [] h h') (i : ∀ x, x ∈ o → x ∈ o) : KS n0 o ts h h' := a.mono i fun _ hx => by cases hx
theorem notTy {h : DH} {o ts : List Nat} {n0 b t : Nat} {k : DBlk} (a : h.get b = some k) (ht : tyOf k = some t) (h1 : t ∉ o) (h2 : t ∉ ts) : ¬ (TyS h o b ∨ (n0 ≤ b ∧ TyS h ts b)) := by
  rintro (⟨k', t', g1, g2, g3⟩ | ⟨_, k', t', g1, g2, g3⟩)
  · rw [a] at g1; simp only [Option.some.injEq] at g1; subst g1; rw [ht] at g2; simp only [Option.some.injEq] at g2; subst g2; exact h1 g3
  · rw [a] at g1; simp only [Option.some.injEq] at g1; subst g1; rw [ht] at g2; simp only [Option.some.injEq] at g2; subst g2; exact h2 g3
theorem Has.ks {n0 : Nat} {o ts : List Nat} {h h' : DH} {b : Nat} {c : List Value} {e : TypeId} {md : Md} (a : Has h b (.cells c e md)) (f : KS n0 o ts h h') (h1 : e ∉ o) (h2 : e ∉ ts) : Has h' b (.cells c e md) := a.kp f (notTy a.2 rfl h1 h2)
theorem Has.ksM {n0 : Nat} {o ts : List Nat} {h h' : DH} {b : Nat} {es : List MapEntry} {cl : Nat} (a : Has h b (.map es cl)) (f : KS n0 o ts h h') (h1 : mapTy ∉ o) (h2 : mapTy ∉ ts) : Has h' b (.map es cl) := a.kp f (notTy a.2 rfl h1 h2)
theorem RowsAt.ks {n0 : Nat} {o ts : List Nat} {h h' : DH} {v : Value} {e : TypeId} {s : Nat} {rows : List (List Value)} (a : RowsAt h v e s rows) (f : KS n0 o ts h h') (h1 : e ∉ o) (h2 : e ∉ ts) : RowsAt h' v e s rows := by
  refine a.kp f ?_
  rcases a with ⟨rfl, rfl⟩ | ⟨b, q, cap, pre, post, md, rfl, g1, g2, g3⟩
  · intro b hb; simp [blockOf] at hb
  · intro b' hb; simp [blockOf] at hb; subst hb; exact notTy g2.2 rfl h1 h2
theorem Grow.ks {n0 n1 : Nat} {o ts : List Nat} {h h' : DH} {v : Value} {e : TypeId} {s : Nat} {rows : List (List Value)} (a : Grow h v e s rows n1) (f : KS n0 o ts h h') (h1 : e ∉ o) (h2 : e ∉ ts) : Grow h' v e s rows n1 := by
  refine a.kp f ?_
  rcases a with ⟨rfl, rfl⟩ | ⟨b, md, rfl, g1, g2, g3⟩
  · intro b hb; simp [blockOf] at hb
  · intro b' hb; simp [blockOf] at hb; subst hb; exact notTy g2.2 rfl h1 h2
/-- Told as what is older than n0. -/
theorem Has.old {n0 : Nat} {o ts : List Nat} {h h' : DH} {b : Nat} {c : List Value} {e : TypeId} {md : Md} (a : Has h b (.cells c e md)) (f : KS n0 o ts h h') (h1 : e ∉ o) (h2 : b < n0) : Has h' b (.cells c e md) := by
  refine a.kp f ?_
  rintro (⟨k', t', g1, g2, g3⟩ | ⟨g0, _⟩)
  · rw [a.2] at g1; simp only [Option.some.injEq] at g1; subst g1
    simp only [tyOf, Option.some.injEq] at g2; subst g2; exact h1 g3
  · omega
theorem RowsAt.block {h : DH} {v : Value} {e : TypeId} {s : Nat} {rows : List (List Value)} (a : RowsAt h v e s rows) : ∀ b, b ∈ blockOf v → b < h.n := by
  intro b hb
  rcases a with ⟨rfl, rfl⟩ | ⟨b', q, cap, pre, post, md, rfl, g1, g2, g3⟩
  · simp [blockOf] at hb
  · simp [blockOf] at hb; subst hb; exact g2.1
/-- What was there when the function began stays. -/
theorem RowsAt.out {o ts : List Nat} {h h' : DH} {v : Value} {e : TypeId} {s : Nat} {rows : List (List Value)} (a : RowsAt h v e s rows) (f : KS h.n o ts h h') (h1 : e ∉ o) : RowsAt h' v e s rows := a.ks (n0 := h.n) f.out h1 (by simp)
theorem Has.out {o ts : List Nat} {h h' : DH} {b : Nat} {c : List Value} {e : TypeId} {md : Md} (a : Has h b (.cells c e md)) (f : KS h.n o ts h h') (h1 : e ∉ o) : Has h' b (.cells c e md) := a.ks (n0 := h.n) f.out h1 (by simp)
/-- A call in a region of which the order is drawn. -/
theorem KS.lowered {n0 : Nat} {o ts : List Nat} {h h' : DH} (f : KS n0 o ts (reset h) h') : KS n0 o ts h (lowered h' h.low) := Kp.lowered f
/-! ### A store into an element -/
theorem flatten_len {rows : List (List Value)} {s : Nat} (hs : ∀ r, r ∈ rows → r.length = s) : rows.flatten.length = rows.length * s := by
  induction rows with
  | nil => simp
  | cons a l ih =>
    rw [List.flatten_cons, List.length_append, ih fun r hr => hs r (List.mem_cons_of_mem _ hr), hs a (List.mem_cons_self ..), List.length_cons, Nat.add_mul]
    omega
theorem flatten_store {rows : List (List Value)} {s : Nat} (hs : ∀ r, r ∈ rows → r.length = s) {j k w : Nat} {r cs : List Value} (hj : rows[j]? = some r) (hk : k + w ≤ s) (hw : cs.length = w) :
    (rows.set j (r.take k ++ cs ++ r.drop (k + w))).flatten = rows.flatten.take (j * s + k) ++ cs ++ rows.flatten.drop (j * s + k + w) := by
  have hr : r.length = s := hs r (List.mem_of_getElem? hj)
  induction rows generalizing j with
  | nil => simp at hj
  | cons a l ih =>
    have ha : a.length = s := hs a (List.mem_cons_self ..)
    cases j with
    | zero =>
      simp at hj
      subst hj
      simp only [List.set_cons_zero, List.flatten_cons, Nat.zero_mul, Nat.zero_add]
      rw [List.take_append_of_le_length (by omega), List.drop_append_of_le_length (by omega)]
      simp
    | succ j =>
      simp only [List.set_cons_succ, List.flatten_cons]
      rw [ih (fun r hr => hs r (List.mem_cons_of_mem _ hr)) (by simpa using hj)]
      have e1 : (j + 1) * s + k = a.length + (j * s + k) := by rw [Nat.add_mul, ha]; omega
      have e2 : (j + 1) * s + k + w = a.length + (j * s + k + w) := by rw [Nat.add_mul, ha]; omega
      rw [e2, e1, List.take_length_add_append, List.drop_length_add_append]
      simp
theorem Grow.place {h : DH} {v : Value} {e : TypeId} {s n0 : Nat} {rows : List (List Value)} (a : Grow h v e s rows n0) {k : IntKind} {j : Nat} (hj : j < rows.length) :
    ∃ b md, iaS s v (.int k (j : Int)) = some (.pointer (some ⟨b, j * s, none⟩)) ∧ v = .slice (some ⟨b, 0, none⟩) rows.length rows.length ∧ n0 ≤ b ∧ Has h b (.cells rows.flatten e md) ∧ isRo md = false ∧ ∀ r, r ∈ rows → r.length = s := by
  rcases a with ⟨rfl, rfl⟩ | ⟨b, md, rfl, h1, h2, h3, h4⟩
  · simp at hj
  · refine ⟨b, md, ?_, rfl, h1, h2, h3, h4⟩
    show guard' (Nat.blt j rows.length) (some (Value.pointer (some ⟨b, Nat.add 0 (Nat.mul j s), none⟩))) = _
    rw [show Nat.blt j rows.length = true from Nat.ble_eq_true_of_le hj]
    show some (Value.pointer (some ⟨b, 0 + j * s, none⟩)) = _
    rw [Nat.zero_add]
/-- A store into an element of a slice that a function has made. -/
theorem Grow.store {h : DH} {v : Value} {e : TypeId} {s n0 b : Nat} {md : Md} {rows : List (List Value)} {j k w : Nat} {r cs : List Value} {x : Value} {F : DH → Prop} (hv : v = .slice (some ⟨b, 0, none⟩) rows.length rows.length) (hn : n0 ≤ b) (hb : Has h b (.cells rows.flatten e md)) (hm : isRo md = false)
    (hs : ∀ r, r ∈ rows → r.length = s) (hj : rows[j]? = some r) (hk : k + w ≤ s) (h1 : isTup x = false) (h2 : isTopv x = false) (hcs : cellsOfV x = cs) (hw : cs.length = w) (hok : lall okCell cs = true)
    (K : ∀ h', Grow h' v e s (rows.set j (r.take k ++ cs ++ r.drop (k + w))) n0 → Has h' b (.cells (rows.set j (r.take k ++ cs ++ r.drop (k + w))).flatten e md) → Kp h h' (· = b) → F h') : obP (st w h (.pointer (some ⟨b, j * s + k, none⟩)) x) F := by
  have hr : r.length = s := hs r (List.mem_of_getElem? hj)
  have hlt : j < rows.length := (List.getElem?_eq_some_iff.1 hj).1
  have hle : (j + 1) * s ≤ rows.length * s := Nat.mul_le_mul_right s hlt
  have e1 : (j + 1) * s = j * s + s := by rw [Nat.add_mul]; omega
  refine st_ok (c' := (rows.set j (r.take k ++ cs ++ r.drop (k + w))).flatten) hb hm h1 h2 (by rw [hcs]; exact hw) (by rw [flatten_len hs]; omega) (by rw [hcs]; exact hok) (by rw [hcs]; exact flatten_store hs hj hk hw) ?_
  refine K _ (.inr ⟨b, md, ?_, hn, hb.upd_self _, hm, ?_⟩) (hb.upd_self _) (Kp.upd _ (.inl rfl))
  · rw [hv]; simp
  · intro r' hr'
    rcases List.mem_or_eq_of_mem_set hr' with h | h
    · exact hs r' h
    · subst h; simp [hw]; omega
/-- One element more. -/
theorem app1 {h : DH} {n0 e by_ s : Nat} {sl r : Value} {z : List Value} {rows : List (List Value)} {cs : List Value} {F : Value → DH → Prop} (hg : Grow h sl e s rows n0) (hn0 : n0 ≤ h.n)
    (hz : z.length = s) (h1 : isTup r = false) (h2 : isTopv r = false) (hcs : cellsOfV r = cs) (hl : cs.length = s) (hok : lall okCell cs = true) (hs : Nat.ble (Nat.mul 1 s) (2 ^ 24) = true) (hr : room (rows.length + 1) by_ s = true)
    (K : ∀ v' h', Grow h' v' e s (rows ++ [cs]) n0 → Kp h h' (fun x => x ∈ blockOf sl) → F v' h') :
    oh (bldSl e s 1 z [((0, s), r)] h) fun x h25 => oh (appS e by_ s h25 sl x) fun v' h27 => F v' h27 := by
  have hfill : fillE [((0, s), r)] (lrep z 1) = some cs := by
    have hz1 : lrep z 1 = z := by show lapp z [] = z; rw [lapp_eq]; simp
    rw [hz1]
    show guard' (sel (isTup r) false (sel (Nat.beq (llen (cellsOfV r)) s) (Nat.ble (Nat.add 0 s) (llen z)) false)) (some (splice z 0 (cellsOfV r))) = _
    rw [h1, hcs, llen_eq, llen_eq, hl, hz, Nat.beq_refl, sel_false, sel_true, show Nat.ble (Nat.add 0 s) s = true from Nat.ble_eq_true_of_le (by show 0 + s ≤ s; omega), guard'_true, splice_eq z 0 cs (by omega)]
    simp [hl, hz]
  refine bldSl_ok (by show sel (sel (isTopv r) false true) true false = true; rw [h2]; rfl) hs hfill ?_
  have x1 : Ext h (h.push (.cells cs e .exact)) := Ext.push _ _
  have hx : Has (h.push (.cells cs e .exact)) h.n (.cells cs e .exact) := Has.push_self _ _
  have hxr : RowsAt (h.push (.cells cs e .exact)) (.slice (some ⟨h.n, 0, none⟩) 1 1) e s [cs] := .inr ⟨h.n, 0, 1, [], [], .exact, rfl, Nat.le_refl _, by simpa using hx, rfl, by simpa using hl⟩
  have hg1 := hg.ext x1
  generalize hH : h.push (.cells cs e .exact) = h1' at x1 hx hxr hg1 ⊢
  refine appS_grow hg1 (Nat.le_trans hn0 x1.n) hxr.appended (by simpa using hl) (by simpa using hok) hr ?_
  intro v' h2 g1 g2 g3
  exact K v' _ g1 (Kp.trans (h1 := h1') (Kp.mono x1 fun _ h => h.elim) g2)
theorem room_ok {n by_ s : Nat} (h1 : n * by_ ≤ 2 ^ 47) (h2 : n ≤ 2 ^ 47) (h3 : 0 < s) : room n by_ s = true := by
  unfold room
  rw [show Nat.ble (Nat.mul n by_) (2 ^ 47) = true from Nat.ble_eq_true_of_le h1, show Nat.ble n (2 ^ 47) = true from Nat.ble_eq_true_of_le h2, show Nat.blt 0 s = true from Nat.ble_eq_true_of_le h3]; rfl
end Go.Det
end
/- From the reading to the model: a call whose arguments are plain values and slices of plain cells. -/
set_option linter.unusedVariables false
set_option linter.unusedSimpArgs false
noncomputable section
namespace Go.Det
variable {P : Program}

/-- A row of cells that came in: where it lies, its cells. -/
structure In where
  on : Bool
  mb : Nat
  base : Nat
  lim : Nat
  esz : Nat
  ty : TypeId
  cs : List Value
def In.img (i : In) : Img := ⟨i.mb, i.base, false, i.lim, i.esz⟩
def In.blk (i : In) : DBlk := .cells i.cs i.ty .ro
def In.ok (P : Program) (w : World) (i : In) : Prop := i.on = true → i.mb < w.heap.size ∧ tsize P i.ty = some i.esz ∧ ∀ (j : Nat) (v : Value), i.cs[j]? = some v → flat1 v = true ∧ w.cell? ⟨i.mb, i.base + j, none⟩ = some v
def inH (ins : List In) (h : DH) : DH := match ins with
  | [] => h
  | i :: r => inH r (h.push i.blk)
def inRho (ins : List In) : Rho := fun b => (ins[b]?).bind fun i => sel i.on (some i.img) none
theorem inH_n (ins : List In) (h : DH) : (inH ins h).n = h.n + ins.length := by
  induction ins generalizing h with
  | nil => rfl
  | cons i r ih => show (inH r (h.push i.blk)).n = _; rw [ih]; show h.n + 1 + r.length = h.n + (r.length + 1); omega
theorem inH_low (ins : List In) (h : DH) : (inH ins h).low = h.low := by
  induction ins generalizing h with
  | nil => rfl
  | cons i r ih => exact ih _
theorem inH_get (ins : List In) (h : DH) (b : Nat) : (inH ins h).get b = if h.n ≤ b ∧ b < h.n + ins.length then (ins[b - h.n]?).map In.blk else h.get b := by
  induction ins generalizing h with
  | nil => rw [if_neg (by simp)]; rfl
  | cons i r ih =>
    show (inH r (h.push i.blk)).get b = _
    rw [ih]
    have hn : (h.push i.blk).n = h.n + 1 := rfl
    rw [hn, DH.get_push]
    by_cases h1 : b = h.n
    · subst h1
      rw [if_neg (by omega), if_pos rfl, if_pos (by simp)]
      first | done | simp
    · by_cases h2 : h.n + 1 ≤ b ∧ b < h.n + 1 + r.length
      · rw [if_pos h2, if_pos (by simp; omega)]
        obtain ⟨k, hk⟩ : ∃ k, b = h.n + 1 + k := ⟨b - (h.n + 1), by omega⟩
        subst hk
        have e1 : h.n + 1 + k - (h.n + 1) = k := by omega
        have e2 : h.n + 1 + k - h.n = k + 1 := by omega
        rw [e1, e2]
        simp
      · rw [if_neg h2, if_neg h1, if_neg (by simp; omega)]
theorem calls_of_cp (hm : P.follows .mixedOrders = true) {f : FuncId} {ins : List In} {args : List Value} {args' : Array Value} {w : World} (hi : ∀ i, i ∈ ins → i.ok P w) (ha : LR (inRho ins) args args'.toList)
    (k : CP P f args (reset (inH ins h0)) fun v _ => v = .bool true) : Calls P f args' w fun e w' => e = .returned (.bool true) ∧ Go.RowKit.Below w.heap.size w w' := by
  obtain ⟨v, h', rfl, N, hN⟩ := k
  have hget : ∀ b, (inH ins h0).get b = (ins[b]?).map In.blk := by
    intro b
    rw [inH_get]
    have hz : h0.n = 0 := rfl
    rw [hz]
    by_cases hb : b < ins.length
    · rw [if_pos (by omega)]; simp
    · rw [if_neg (by omega), List.getElem?_eq_none (by omega)]; rfl
  have hn : (inH ins h0).n = ins.length := by rw [inH_n]; exact Nat.zero_add _
  have hof : ∀ b e, inRho ins b = some e → ∃ i, ins[b]? = some i ∧ (i ∈ ins ∧ i.on = true) ∧ e = i.img := by
    intro b e hb
    unfold inRho at hb
    cases hib : ins[b]? with
    | none => rw [hib] at hb; cases hb
    | some i =>
      rw [hib] at hb
      have hb : sel i.on (some i.img) none = some e := hb
      cases ho : i.on with
      | false => rw [ho] at hb; cases hb
      | true => rw [ho, sel_true] at hb; simp only [Option.some.injEq] at hb; exact ⟨i, rfl, ⟨List.mem_of_getElem? hib, ho⟩, hb.symm⟩
  have hst : St P (inRho ins) (fun b => (inH ins h0).get b) w := by
    refine ⟨?_, ?_, ?_⟩
    · intro b e hb
      obtain ⟨i, _, hmem, rfl⟩ := hof b e hb
      exact (hi i hmem.1 hmem.2).1
    · intro b e hb
      obtain ⟨i, hib, hmem, rfl⟩ := hof b e hb
      obtain ⟨_, g2, g3⟩ := hi i hmem.1 hmem.2
      refine ⟨i.blk, by show (inH ins h0).get b = _; rw [hget, hib]; rfl, rfl, g2, fun j v hv => ?_⟩
      obtain ⟨g4, g5⟩ := g3 j v hv
      exact ⟨v, g5, .flat v g4⟩
    · intro b e b' e' k k' hb hb' hne hk hk' ho _
      exfalso
      obtain ⟨i, hib, _, rfl⟩ := hof b e hb
      have hk : (inH ins h0).get b = some k := hk
      rw [hget, hib] at hk
      simp only [Option.map_some, Option.some.injEq] at hk
      subst hk
      exact ho
  have hwf : Wf (inH ins h0) := by
    intro b hb
    rw [hget, List.getElem?_eq_none (by rw [hn] at hb; exact hb)]; rfl
  have hfree : Free (inRho ins) (inH ins h0).n h'.n := by
    intro b hb _
    unfold inRho
    rw [List.getElem?_eq_none (by rw [hn] at hb; exact hb)]; rfl
  refine ((callN_ok hm N).run f args (reset (inH ins h0)) (.bool true) h' (hN N (Nat.le_refl N)) hwf (inRho ins) (fun b => (inH ins h0).get b) w args' hst (fun _ _ _ => rfl) hfree ha).mono ?_
  rintro e w' ⟨v', ρ', C', rfl, hv, _, hs⟩
  refine ⟨by rw [hv.flat1_eq rfl], ⟨hs.rest.1, hs.rest.2.1, hs.rest.2.2, hs.size, fun m hmlt => hs.frame m hmlt ?_⟩⟩
  intro b e k hb hk ho
  obtain ⟨i, hib, _, rfl⟩ := hof b e hb
  have hk : (inH ins h0).get b = some k := hk
  rw [hget, hib] at hk
  simp only [Option.map_some, Option.some.injEq] at hk
  subst hk
  exact ho.elim
/-- A slice that came in is one of the reading's. -/
theorem in_slice {ins : List In} {b : Nat} {i : In} {len cap : Nat} (hb : ins[b]? = some i) (ho : i.on = true) (hc : len ≤ cap) (hl : i.base + cap * i.esz ≤ i.lim) : VR (inRho ins) (.slice (some ⟨b, 0, none⟩) len len) (.slice (some ⟨i.mb, i.base, none⟩) len cap) :=
  .sl b 0 len len i.img i.base cap (by unfold inRho; rw [hb]; show sel i.on _ _ = _; rw [ho]; rfl) ⟨.inl rfl, .inr ⟨rfl, hc, hl⟩⟩
end Go.Det
end
/- More fuel comes to the same; a closed call, reckoned once. -/
set_option linter.unusedVariables false
set_option linter.unusedSimpArgs false
noncomputable section
namespace Go.Det
variable {P : Program}

def CLe (c c' : Caller) : Prop := ∀ f args h r, c f args h = some r → c' f args h = some r
theorem dstep_mono {c c' : Caller} (hc : CLe c c') {a : DA} {h : DH} {o : Oper} {r : DA × DH} (e : dstep P c a h o = some r) : dstep P c' a h o = some r := by
  unfold dstep at e ⊢
  obtain ⟨d, h1, h2⟩ := ob_eq_some.1 e
  rw [h1, ob_some]
  cases d with
  | val v h' => exact h2
  | skip h' => exact h2
  | enter f args h' =>
    obtain ⟨x, h3, h4⟩ := ob_eq_some.1 (h2 : (ob (c f args h') fun r => some (DA.put a o.dst r.1, r.2)) = some r)
    show (ob (c' f args h') fun r => some (DA.put a o.dst r.1, r.2)) = some r
    rw [hc _ _ _ _ h3]; exact h4
theorem dops_mono {c c' : Caller} (hc : CLe c c') {ops l : List Oper} : ∀ {a : DA} {h : DH} {r : DA × DH}, dops P c ops l a h = some r → dops P c' ops l a h = some r := by
  induction l with
  | nil => intro a h r e; exact e
  | cons o l ih =>
    intro a h r e
    rw [dops_cons'] at e ⊢
    obtain ⟨w, h1, h2⟩ := ob_eq_some.1 e
    rw [h1, ob_some]
    cases w with
    | false => exact ih h2
    | true =>
      obtain ⟨x, h3, h4⟩ := ob_eq_some.1 (h2 : (ob (dstep P c a h o) fun x => dops P c ops l x.1 x.2) = some r)
      show (ob (dstep P c' a h o) fun x => dops P c' ops l x.1 x.2) = some r
      rw [dstep_mono hc h3]; exact ih h4
theorem dopsF_mono {c c' : Caller} (hc : CLe c c') {ops l : List Oper} : ∀ {a : DA} {h : DH} {r : DF}, dopsF P c ops l a h = some r → dopsF P c' ops l a h = some r := by
  induction l with
  | nil => intro a h r e; exact e
  | cons o l ih =>
    intro a h r e
    rw [dopsF_cons'] at e ⊢
    obtain ⟨w, h1, h2⟩ := ob_eq_some.1 e
    rw [h1, ob_some]
    cases w with
    | false =>
      obtain ⟨y, h3, h4⟩ := ob_eq_some.1 (h2 : (ob (dopsF P c ops l (DA.put a o.dst undef) h) fun y => some (⟨y.a, y.h, ⟨some [], .none⟩ :: y.fs⟩ : DF)) = some r)
      show (ob (dopsF P c' ops l (DA.put a o.dst undef) h) fun y => some (⟨y.a, y.h, ⟨some [], .none⟩ :: y.fs⟩ : DF)) = some r
      rw [ih h3]; exact h4
    | true =>
      rw [sel_true] at h2 ⊢
      cases hi : isCall o.op with
      | true =>
        rw [hi, sel_true] at h2
        rw [sel_true]
        obtain ⟨x, h3, h4⟩ := ob_eq_some.1 h2
        obtain ⟨y, h5, h6⟩ := ob_eq_some.1 h4
        rw [dstep_mono hc h3, ob_some, ih h5]; exact h6
      | false =>
        rw [hi, sel_false] at h2
        rw [sel_false]
        obtain ⟨x, h3, h4⟩ := ob_eq_some.1 h2
        obtain ⟨y, h5, h6⟩ := ob_eq_some.1 h4
        rw [dstep_mono hc h3, ob_some, ih h5]; exact h6
theorem dregion_mono {c c' : Caller} (hc : CLe c c') {ops : Array Oper} {draw : Bool} {a : DA} {h : DH} {r : DA × DH} (e : dregion P c ops draw a h = some r) : dregion P c' ops draw a h = some r := by
  cases draw with
  | false => exact dops_mono hc (e : dops P c ops.toList ops.toList a h = some r)
  | true =>
    have e : (ob (drawPairs ops) fun ps => dfree ps P c ops a h) = some r := e
    show (ob (drawPairs ops) fun ps => dfree ps P c' ops a h) = some r
    obtain ⟨ps, h1, h2⟩ := ob_eq_some.1 e
    rw [h1, ob_some]
    cases ps with
    | nil => exact dops_mono hc (h2 : dops P c ops.toList ops.toList a h = some r)
    | cons p ps =>
      obtain ⟨y, h3, h4⟩ := ob_eq_some.1 (h2 : (ob (dopsF P c ops.toList ops.toList a h) fun y => guard' (eitherAll (p :: ps) y.fs) (some (y.a, y.h))) = some r)
      show (ob (dopsF P c' ops.toList ops.toList a h) fun y => guard' (eitherAll (p :: ps) y.fs) (some (y.a, y.h))) = some r
      rw [dopsF_mono hc h3]; exact h4
theorem andThen_mono {x x' : Option DR} {k k' : DA → DH → Option DR} (hx : ∀ r, x = some r → x' = some r) (hk : ∀ a h r, k a h = some r → k' a h = some r) {r : DR} (e : andThen x k = some r) : andThen x' k' = some r := by
  unfold andThen at e ⊢
  obtain ⟨y, h1, h2⟩ := ob_eq_some.1 e
  rw [hx _ h1, ob_some]
  cases hn : isNormal y.e with
  | true => rw [hn, sel_true] at h2; rw [sel_true]; exact hk _ _ _ h2
  | false => rw [hn, sel_false] at h2; rw [sel_false]; exact h2
theorem exec_mono {c c' : Caller} (hc : CLe c c') : ∀ {n : Nat} {cd : Code} {a : DA} {h : DH} {r : DR}, exec P c n cd a h = some r → exec P c' (n + 1) cd a h = some r := by
  intro n
  induction n with
  | zero => intro cd a h r e; cases e
  | succ n ih =>
    intro cd a h r e
    have e : execBody P c (exec P c n) cd a h = some r := e
    show execBody P c' (exec P c' (n + 1)) cd a h = some r
    cases cd with
    | region i ops d =>
      obtain ⟨x, h1, h2⟩ := ob_eq_some.1 (e : (ob (dregion P c ops d a h) fun x => some (⟨.normal, x.1, x.2⟩ : DR)) = some r)
      show (ob (dregion P c' ops d a h) fun x => some (⟨.normal, x.1, x.2⟩ : DR)) = some r
      rw [dregion_mono hc h1]; exact h2
    | seq x y =>
      have e : andThen (exec P c n x a h) (fun a h => exec P c n y a h) = some r := e
      show andThen (exec P c' (n + 1) x a h) (fun a h => exec P c' (n + 1) y a h) = some r
      exact andThen_mono (fun r h => ih h) (fun a h r k => ih k) e
    | cond o x y =>
      obtain ⟨b, h1, h2⟩ := ob_eq_some.1 (e : (ob (asB (dev a o)) fun b => sel b (exec P c n x a h) (exec P c n y a h)) = some r)
      show (ob (asB (dev a o)) fun b => sel b (exec P c' (n + 1) x a h) (exec P c' (n + 1) y a h)) = some r
      rw [h1, ob_some]
      cases b with
      | true => exact ih h2
      | false => exact ih h2
    | block i x =>
      obtain ⟨y, h1, h2⟩ := ob_eq_some.1 (e : (ob (exec P c n x a h) fun r => some (⟨leaveBlock i r.e, r.a, r.h⟩ : DR)) = some r)
      show (ob (exec P c' (n + 1) x a h) fun r => some (⟨leaveBlock i r.e, r.a, r.h⟩ : DR)) = some r
      rw [ih h1]; exact h2
    | loop x =>
      have e : andThen (exec P c n x a h) (fun a h => exec P c n (.loop x) a h) = some r := e
      show andThen (exec P c' (n + 1) x a h) (fun a h => exec P c' (n + 1) (.loop x) a h) = some r
      exact andThen_mono (fun r h => ih h) (fun a h r k => ih k) e
    | skip => exact e
    | label l => exact e
    | ret => exact e
    | exit i => exact e
    | rangeFunc => cases e
    | scope => cases e
    | goto => cases e
    | refuse => cases e
theorem callN_mono1 : ∀ n, CLe (callN P n) (callN P (n + 1)) := by
  intro n
  induction n with
  | zero => intro f args h r e; cases e
  | succ n ih =>
    intro f args h r e
    rw [callN_succ] at e ⊢
    obtain ⟨d, h1, h2⟩ := ob_eq_some.1 e
    obtain ⟨x, h3, h4⟩ := ob_eq_some.1 h2
    rw [h1, ob_some, exec_mono ih h3]; exact h4
theorem callN_mono {n m : Nat} (h : n ≤ m) : CLe (callN P n) (callN P m) := by
  induction h with
  | refl => intro f args h r e; exact e
  | step _ ih => intro f args h r e; exact callN_mono1 _ _ _ _ _ (ih f args h r e)
/-- A closed call that says yes and touches nothing. -/
def isYes : Value → Bool
  | .bool true => true
  | _ => false
def okB (P : Program) (n f : Nat) (h : DH) : Bool := @Option.rec (Value × DH) (fun _ => Bool) false (fun r => sel (isYes r.1) (Nat.ble h.n r.2.low) false) (callN P n f [] h)
theorem isYes_eq {v : Value} (h : isYes v = true) : v = .bool true := by
  unfold isYes at h
  split at h
  · rfl
  · cases h
theorem cp_okB (hm : P.follows .mixedOrders = true) {n f : Nat} {h : DH} (e : okB P n f h = true) : CP P f [] h fun v h' => v = .bool true ∧ Ext h h' := by
  unfold okB at e
  cases hc : callN P n f [] h with
  | none => rw [hc] at e; cases e
  | some r =>
    rw [hc] at e
    obtain ⟨v, h'⟩ := r
    have hh := (callN_ok hm n).hc f [] h v h' hc
    have e : sel (isYes v) (Nat.ble h.n h'.low) false = true := e
    cases hy : isYes v with
    | false => rw [hy] at e; cases e
    | true =>
      rw [hy, sel_true] at e
      have hl := Nat.le_of_ble_eq_true e
      refine ⟨v, h', ⟨isYes_eq hy, hh.n1, fun b hb _ => ?_, fun m _ hm _ => Nat.le_trans hm hl⟩, n, fun k hk => callN_mono hk _ _ _ _ hc⟩
      by_cases hg : h'.get b = h.get b
      · exact hg
      · have := hh.lowc b hb hg; omega
end Go.Det
end
/- Arguments of a row, read: slices of bytes, of whole numbers. -/
set_option linter.unusedVariables false
set_option linter.unusedSimpArgs false
noncomputable section
namespace Go.Det
open Go.ChangeShapes Go.WideShapes
variable {P : Program}

def numRows (k : IntKind) (l : List Int) : List (List Value) := l.map fun z => [.int k z]
theorem ints_in {H : Type} {enc : TypeId × Value → H} {W : World} {base : Nat} {sp : Nat → Bool} {held : Bool} {t e : TypeId} {k : IntKind} {v : Value} {d : DataW H} {ps : List MemPlace} (hu : P.underlying t = some (.slice e)) (he : P.underlying e = some (.int k)) (hc : P.cellsOf e = 1) (hs : tsize P e = some 1)
    (hv : Value.okWide P W .any base t v) (h : DataW.Trod enc P W 0 sp held t v d ps) :
    ∃ (i : In) (dv : Nat → Value) (l : List Int), i.ok P W ∧ (∀ ins b, ins[b]? = some i → VR (inRho ins) (dv b) v) ∧ (∀ h' b, b < h'.n → h'.get b = some i.blk → RowsAt h' (dv b) e 1 (numRows k l)) ∧ ∀ z, z ∈ l → (Lit.int k z).wf = true := by
  obtain ⟨a, len, cap, rfl⟩ := okWide_slice hu hv
  obtain ⟨fuel, hf⟩ := h
  have hflat : ∀ (c : List Int), (numRows k c).flatten = c.map (Value.int k) := by
    intro c; induction c with
    | nil => rfl
    | cons x c ih => show Value.int k x :: (numRows k c).flatten = _; rw [ih]; rfl
  rcases open_ints hu he hc hf with ⟨hcs, _⟩ | ⟨x, l, c, zs, hcs, _, hl, hm, hz, hx, hcell, hwz⟩
  · simp [Value.cells] at hcs
    obtain ⟨rfl, rfl, rfl⟩ := hcs
    exact ⟨⟨false, 0, 0, 0, 0, 0, []⟩, fun _ => .slice none 0 0, [], (fun h => by cases h), fun ins b _ => .flat _ rfl, fun h' b _ _ => RowsAt.nil _ _ _, fun z hz => by cases hz⟩
  · simp [Value.cells] at hcs
    obtain ⟨rfl, rfl, rfl⟩ := hcs
    have hok : len ≤ cap ∧ (cap : Int) ≤ IntKind.i64.max ∧ W.has P .any base x e cap := by
      simpa only [Value.okWide, hu, Cell.okWide, Cell.ok] using hv
    obtain ⟨_, hspot, row, cells, hsh, _⟩ := hok.2.2
    have hblk : x.block < W.heap.size := by
      unfold World.shape? at hsh
      rcases Nat.lt_or_ge x.block W.heap.size with h | h
      · exact h
      · rw [Array.getElem?_eq_none h] at hsh; cases hsh
    obtain ⟨mb, off, spot⟩ := x
    simp only at hspot hblk
    subst hspot
    have hll : (zs.take len).length = len := by
      rw [List.length_take, hz]
      split <;> omega
    refine ⟨⟨true, mb, off, off + cap * 1, 1, e, (zs.take len).map (Value.int k)⟩, fun b => .slice (some ⟨b, 0, none⟩) len len, zs.take len, fun _ => ⟨hblk, hs, fun j v' hv' => ?_⟩, fun ins b hb => in_slice hb rfl hl (Nat.le_refl _), fun h' b hb hg => ?_, fun z hz' => hwz z (List.mem_of_mem_take hz')⟩
    · have hv' : ((zs.take len).map (Value.int k))[j]? = some v' := hv'
      rw [List.getElem?_map] at hv'
      cases hj : (zs.take len)[j]? with
      | none => rw [hj] at hv'; cases hv'
      | some z =>
        rw [hj] at hv'
        simp only [Option.map_some, Option.some.injEq] at hv'
        subst hv'
        refine ⟨rfl, ?_⟩
        have hjl : j < len := by have := (List.getElem?_eq_some_iff.1 hj).1; omega
        rw [List.getElem?_take_of_lt hjl] at hj
        have hjz : j < zs.length := (List.getElem?_eq_some_iff.1 hj).1
        have := hcell j hjz
        rw [List.getD_eq_getElem?_getD, hj] at this
        refine Eq.trans ?_ this
        congr 1
        unfold Addr.add
        split
        · rename_i h0; subst h0; rfl
        · rfl
    · have hlen : (numRows k (zs.take len)).length = len := by simp [numRows, hz]; split <;> omega
      refine .inr ⟨b, 0, len, [], [], .ro, by rw [hlen], by rw [hlen]; exact Nat.le_refl _, ⟨hb, ?_⟩, rfl, ?_⟩
      · rw [hg, hflat]; simp [In.blk]
      · intro r hr
        obtain ⟨z, _, rfl⟩ := List.mem_map.1 hr; rfl
theorem inH_has {ins : List In} {b : Nat} {i : In} (h : ins[b]? = some i) : b < (reset (inH ins h0)).n ∧ (reset (inH ins h0)).get b = some i.blk := by
  have hb : b < ins.length := (List.getElem?_eq_some_iff.1 h).1
  have hz : h0.n = 0 := rfl
  refine ⟨by show b < (inH ins h0).n; rw [inH_n, hz]; omega, ?_⟩
  show (inH ins h0).get b = _
  rw [inH_get, hz, if_pos (by omega)]
  simp [h]
end Go.Det
end
/- Arguments of a row, read: slices of arrays of whole numbers. -/
set_option linter.unusedVariables false
set_option linter.unusedSimpArgs false
noncomputable section
namespace Go.Det
open Go.ChangeShapes Go.WideShapes
variable {P : Program}

/-- Elements that are so many numbers each. -/
def ArrRows (k : IntKind) (n : Nat) (rows : List (List Value)) : Prop := ∀ r, r ∈ rows → r.length = n ∧ ∀ (j : Nat) v, r[j]? = some v → ∃ z, v = .int k z ∧ (Lit.int k z).wf = true
theorem arrs_in {H : Type} {enc : TypeId × Value → H} {W : World} {base : Nat} {sp : Nat → Bool} {held : Bool} {t a e : TypeId} {n : Nat} {k : IntKind} {v : Value} {d : DataW H} {ps : List MemPlace} (hu : P.underlying t = some (.slice a)) (ha : P.underlying a = some (.array n e)) (he : P.underlying e = some (.int k)) (hc : P.cellsOf e = 1) (hca : P.cellsOf a = n) (hs : tsize P a = some n)
    (hv : Value.okWide P W .any base t v) (h : DataW.Trod enc P W 0 sp held t v d ps) :
    ∃ (i : In) (dv : Nat → Value) (rows : List (List Value)), i.ok P W ∧ (∀ ins b, ins[b]? = some i → VR (inRho ins) (dv b) v) ∧ (∀ h' b, b < h'.n → h'.get b = some i.blk → RowsAt h' (dv b) a n rows) ∧ ArrRows k n rows := by
  obtain ⟨ad, len, cap, rfl⟩ := okWide_slice hu hv
  obtain ⟨fuel, hf⟩ := h
  rcases DataW.trod_slice hu hf with ⟨hcs, _⟩ | ⟨ad', len', cap', elems, rest, m, _, hcs, _, hb, hl, hm, hlen, hel, _, _⟩
  · simp [Value.cells] at hcs
    obtain ⟨rfl, rfl, rfl⟩ := hcs
    exact ⟨⟨false, 0, 0, 0, 0, 0, []⟩, fun _ => .slice none 0 0, [], (fun h => by cases h), fun ins b _ => .flat _ rfl, fun h' b _ _ => RowsAt.nil _ _ _, fun z hz => by cases hz⟩
  · simp [Value.cells] at hcs
    obtain ⟨rfl, rfl, rfl⟩ := hcs
    have hok : len ≤ cap ∧ (cap : Int) ≤ IntKind.i64.max ∧ W.has P .any base ad' a cap := by
      simpa only [Value.okWide, hu, Cell.okWide, Cell.ok] using hv
    obtain ⟨_, hspot, row, cells, hsh, _⟩ := hok.2.2
    have hblk : ad'.block < W.heap.size := by
      unfold World.shape? at hsh
      rcases Nat.lt_or_ge ad'.block W.heap.size with h | h
      · exact h
      · rw [Array.getElem?_eq_none h] at hsh; cases hsh
    obtain ⟨mb, off, spot⟩ := ad'
    simp only at hspot hblk
    subst hspot
    have hadd : ∀ x y : Nat, ((⟨mb, off, none⟩ : Addr).add x).add y = ⟨mb, off + x + y, none⟩ := by
      intro x y
      unfold Addr.add
      split <;> split <;> simp_all
    -- each element's cells
    have each : ∀ i, i < len → ∃ r : List Value, r.length = n ∧ (∀ j v, r[j]? = some v → (∃ z, v = .int k z ∧ (Lit.int k z).wf = true) ∧ W.cell? ⟨mb, off + i * n + j, none⟩ = some v) := by
      intro i hi
      have h1 := hel i hi
      rw [hca] at h1
      have h2 : elems[i]? = some (elems[i]'(by omega)) := List.getElem?_eq_getElem (by omega)
      rw [h2, Option.bind_eq_some_iff] at h1
      obtain ⟨r, hr, ht⟩ := h1
      obtain ⟨_, hrl, hrc⟩ := World.cells?_some hr
      obtain ⟨xs, m', _, _, _, hxl, hx⟩ := DataW.trod_array ha ht
      refine ⟨r, hrl, fun j v hv => ?_⟩
      have hj : j < n := by have := (List.getElem?_eq_some_iff.1 hv).1; omega
      have h3 := hx j hj
      rw [hc, Nat.mul_one] at h3
      have h4 : xs[j]? = some (xs[j]'(by omega)) := List.getElem?_eq_getElem (by omega)
      rw [h4] at h3
      obtain ⟨z, hz, _, hw⟩ := DataW.trod_int he h3
      have h5 : (r.drop j).take 1 = [v] := by
        rw [List.drop_eq_getElem_cons (by omega)]
        have : r[j]'(by omega) = v := by rw [List.getElem?_eq_getElem (by omega)] at hv; simpa using hv
        rw [this]; rfl
      rw [h5] at hz
      simp at hz
      refine ⟨⟨z, hz, hw⟩, ?_⟩
      have := hrc j hj
      rw [hadd] at this
      rw [this, hv]
    obtain ⟨f, hf⟩ : ∃ f : Nat → List Value, ∀ i, i < len → (f i).length = n ∧ ∀ j v, (f i)[j]? = some v → (∃ z, v = .int k z ∧ (Lit.int k z).wf = true) ∧ W.cell? ⟨mb, off + i * n + j, none⟩ = some v :=
      ⟨fun i => if h : i < len then Classical.choose (each i h) else [], fun i hi => by simp only [dif_pos hi]; exact Classical.choose_spec (each i hi)⟩
    have hrl : ∀ r, r ∈ (List.range len).map f → r.length = n := by
      intro r hr
      obtain ⟨i, hi, rfl⟩ := List.mem_map.1 hr
      exact (hf i (List.mem_range.1 hi)).1
    refine ⟨⟨true, mb, off, off + cap * n, n, a, ((List.range len).map f).flatten⟩, fun b => .slice (some ⟨b, 0, none⟩) len len, (List.range len).map f, fun _ => ⟨hblk, hs, fun j v hv => ?_⟩, fun ins b hb => in_slice hb rfl hl (Nat.le_refl _), fun h' b hb hg => ?_, fun r hr => ?_⟩
    · have hv : (((List.range len).map f).flatten)[j]? = some v := hv
      have hj : j < len * n := by
        have := (List.getElem?_eq_some_iff.1 hv).1
        have e : (((List.range len).map f).flatten).length = len * n := by
          have : ∀ (l : List (List Value)), (∀ r, r ∈ l → r.length = n) → l.flatten.length = l.length * n := by
            intro l
            induction l with
            | nil => intro _; simp
            | cons a l ih =>
              intro hl
              rw [List.flatten_cons, List.length_append, ih fun r hr => hl r (List.mem_cons_of_mem _ hr), hl a (List.mem_cons_self ..), List.length_cons, Nat.add_mul]
              omega
          rw [this _ hrl]; simp
        omega
      have hn0 : 0 < n := by rcases Nat.eq_zero_or_pos n with h | h; · subst h; simp at hj
                             · exact h
      obtain ⟨q, r, hil, hjm, rfl⟩ : ∃ q r, q < len ∧ r < n ∧ j = q * n + r := ⟨j / n, j % n, Nat.div_lt_of_lt_mul (by rw [Nat.mul_comm]; exact hj), Nat.mod_lt _ hn0, by rw [Nat.mul_comm]; exact (Nat.div_add_mod j n).symm⟩
      obtain ⟨post, e1, e2⟩ := flatten_at hrl (j := q) (r := f q) (by simp [hil])
      rw [e1, List.append_assoc, List.getElem?_append_right (by rw [e2]; omega), e2, Nat.add_sub_cancel_left, List.getElem?_append_left (by rw [(hf _ hil).1]; exact hjm)] at hv
      obtain ⟨⟨z, rfl, _⟩, hc⟩ := (hf _ hil).2 _ _ hv
      refine ⟨rfl, ?_⟩
      rw [Nat.add_assoc] at hc
      exact hc
    · refine .inr ⟨b, 0, len, [], [], .ro, by simp, by simp, ⟨hb, ?_⟩, rfl, hrl⟩
      rw [hg]; simp [In.blk]
    · obtain ⟨i, hi, rfl⟩ := List.mem_map.1 hr
      have := hf i (List.mem_range.1 hi)
      exact ⟨this.1, fun j v hv => (this.2 j v hv).1⟩
end Go.Det
end

/- For every input, GramOffset returns true, and each argument reads afterwards as it read before. Conditions: none. -/
import Derived.Below
import Derived.ChangeOld
import Derived.OpenShut
import Derived.ProofKit
import Derived.ShutString
import Derived.SizedLaws
import Derived.Test.YtlcjcokniplghaaEA
import Derived.Test.YtlcjcokniplghaaGA
import Derived.Test.YtlcjcokniplghaaRows
import Derived.WalkKit
set_option linter.unusedVariables false
namespace Go.Det
open Go.Proofs
theorem follows_mixed : Try.prog.follows .mixedOrders = true := by kernel_rfl
set_option maxRecDepth 1000000 in
theorem begun_gram (i : In) : okB Try.prog 60 14 (reset (inH [i] h0)) = true := by kernel_rfl
theorem wf_u8 {z : Int} (h : (Lit.int .u8 z).wf = true) : 0 ≤ z ∧ z < 256 := by
  have h1 : IntKind.u8.min = 0 := rfl
  have h2 : IntKind.u8.max = 255 := rfl
  simp only [Lit.wf, Bool.and_eq_true, decide_eq_true_eq] at h
  omega
theorem bytes_of {l : List Int} (h : ∀ z, z ∈ l → (Lit.int .u8 z).wf = true) : numRows .u8 l = byteRows (l.map Int.toNat) ∧ ∀ b, b ∈ l.map Int.toNat → b < 256 := by
  constructor
  · unfold numRows byteRows
    rw [List.map_map]
    refine List.map_congr_left fun z hz => ?_
    have := wf_u8 (h z hz)
    simp only [Function.comp_apply, Int.toNat_of_nonneg this.1]
  · intro b hb
    obtain ⟨z, hz, rfl⟩ := List.mem_map.1 hb
    have := wf_u8 (h z hz)
    omega
end Go.Det
namespace Go.Proofs.Ytlcjcokniplghaa.gramOffset
open Go.ChangeShapes Go.WideShapes Go.ChangeAt Go.RowKit Go.Det
open Go.ChangeMaps (open_string shut_string)
theorem own : ownKnob Try.prog.godebug = none := by kernel_rfl
theorem laidOut : laidOutB Try.prog = true := by kernel_rfl
set_option maxRecDepth 100000 in
theorem lifted (os : Os) (started : os.Started) (H : Type) (enc : TypeId × Value → H) :
    ReturnsInHanded {} Try.checked os 3 .any (Rows.gramOffsetSpec.pre6 enc Try.prog Try.f3 Rows.gramOffsetRow.domain false) (Rows.gramOffsetSpec.post enc Try.prog Try.f3 false true false false) := by
  refine returnsInHanded_of_change_sized (C := Try.checked) own started (by kernel_rfl) Try.func3
    (ChangeSpec.witness6 (enc := enc) (C := Try.checked) false ⟨#[], #[.slice none 0 0], []⟩ 8 (by kernel_rfl) (by kernel_rfl) (by kernel_rfl) (by kernel_rfl)) ?_
  intro W base args ds gs before hval0 hW hcnd hsz0 _
  have hval : ∀ (j : Nat) t v, Try.f3.params[j]? = some t → args[j]? = some v → Value.okWide Try.prog W .any base t v := hval0
  have hW' := hW
  obtain ⟨p, q, hA0, hV, rfl, hfz, hnd⟩ := hW
  have hA : DataW.TrodAll enc Try.prog W 0 (fun _ => true) true Try.f3.params.toList args.toList ds p := hA0
  rw [Try.params3] at hA hval
  obtain ⟨v0, vs0, d0, ds0, p0, q0, hargs, rfl, rfl, h0, r0⟩ := trodAll_cons hA
  obtain ⟨rfl, rfl, rfl⟩ := trodAll_nil r0
  obtain rfl : args = #[v0] := by cases args; simp_all
  obtain ⟨rfl, rfl⟩ := trodVars_none hV
  have k0 := h0
  have lt0 : ∀ x ∈ p0, x.block < W.heap.size := by obtain ⟨m, hm⟩ := k0; exact DataW.trod_lt m _ _ _ hm
  obtain ⟨i0, dv0, l0, io0, vr0, ra0, wf0⟩ := ints_in Try.underlying22 Try.underlying5 (by kernel_rfl) (by kernel_rfl) (hval 0 22 v0 rfl rfl) h0
  clear hA0 hval0 hsz0 hval hA
  refine (calls_of_cp follows_mixed (ins := [i0]) (args := [dv0 0]) (by simpa using io0) (.cons (vr0 _ 0 rfl) (.nil _)) ?_).mono fun e W' ⟨he, bel⟩ => ?_
  · have hb := inH_has (ins := [i0]) (b := 0) rfl
    have ra := ra0 _ 0 hb.1 hb.2
    rw [(bytes_of wf0).1] at ra
    exact gramOffset_walk (cp_okB follows_mixed (begun_gram i0)) ra (bytes_of wf0).2
  · subst he
    exact ⟨_, rfl, _, _, _, [], _, [], hW', trodAll_mk1 (shut_bool Try.underlying4 _), (trodAll_cons_mk (Below.trod laidOut (by kernel_rfl) (of_decide_eq_true (by kernel_rfl)) k0 bel lt0) trodAll_mk0), rfl, bel.frame _, fun h => by cases h⟩
theorem over : Rows.gramOffsetRow.holds Try.pinned (OpenSpec.ofChange Rows.gramOffsetSpec) :=
  OpenClaim.holds_of_wide 3 Try.f3 rfl rfl rfl rfl rfl rfl rfl ⟨rfl, rfl, rfl, rfl, rfl⟩ rfl rfl rfl rfl rfl (by kernel_rfl) Try.func3 (by kernel_rfl)
    (of_decide_eq_true (by kernel_rfl)) (by unfold Func.isWrapper; first | (rw [if_pos (by decide +kernel)]; kernel_rfl) | (rw [if_neg (by decide +kernel)]; exact ⟨rfl, rfl⟩))
    (fun os started H enc _ => lifted os started H enc)
end Go.Proofs.Ytlcjcokniplghaa.gramOffset
namespace Go.Proofs.Ytlcjcokniplghaa
/-- The row, under a short name, for the claim. -/
theorem gramOffset_holds : Rows.GramOffsetSaid := gramOffset.over
#print axioms gramOffset_holds
end Go.Proofs.Ytlcjcokniplghaa

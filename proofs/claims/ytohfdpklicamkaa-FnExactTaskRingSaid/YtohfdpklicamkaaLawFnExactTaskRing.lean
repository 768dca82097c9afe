/- The statement FnExactTaskRingSaid: for every input the law answers true, and each argument reads as it did. Conditions: none. -/
import Derived.Test.YtohfdpklicamkaaRows
import Derived.Test.YtohfdpklicamkaaKFnExactTaskRing
import Derived.WalkKit
import Derived.ProofKit
import Derived.OpenShut
import Derived.ShutString
import Derived.ChangeOld
import Derived.Below
import Derived.Carry
import Derived.SizedLaws
set_option linter.unusedSimpArgs false
set_option linter.unusedVariables false
namespace Go.Proofs.Ytohfdpklicamkaa.fnExactTaskRing
open Go.ChangeShapes Go.WideShapes Go.ChangeAt Go.RowKit
theorem own : ownKnob Try.prog.godebug = none := by kernel_rfl
theorem plain : ([9, 22, 51, 53] : List Nat).all (Ev.plainAt Ev.Γ0 [9, 22, 51, 53]) = true := by kernel_rfl
theorem laid : laidOutB Try.prog = true := by kernel_rfl
set_option maxRecDepth 100000 in
theorem lifted (os : Os) (started : os.Started) (H : Type) (enc : TypeId × Value → H) :
    ReturnsInHanded {} Try.checked os 5 .any (Rows.fnExactTaskRingSpec.pre6 enc Try.prog Try.f5 Rows.fnExactTaskRingRow.domain false) (Rows.fnExactTaskRingSpec.post enc Try.prog Try.f5 false true false false) := by
  refine returnsInHanded_of_change_sized (C := Try.checked) own started (by kernel_rfl) Try.func5
    (ChangeSpec.witness6 (enc := enc) (C := Try.checked) false ⟨#[], #[.agg #[.slice none 0 0, .slice none 0 0]], []⟩ 8 (by kernel_rfl) (by kernel_rfl) (by kernel_rfl) (by kernel_rfl)) ?_
  intro W base args ds gs before hval0 hW hcnd hsz0 _
  have hval : ∀ (j : Nat) t v, Try.f5.params[j]? = some t → args[j]? = some v → Value.okWide Try.prog W .any base t v := hval0
  have hW' := hW
  obtain ⟨p, q, hA0, hV, rfl, hfz, hnd⟩ := hW
  have hA : DataW.TrodAll enc Try.prog W 0 (fun _ => true) true Try.f5.params.toList args.toList ds p := hA0
  rw [Try.params5] at hA hval
  obtain ⟨v0, vs0, d0, ds0, p0, q0, hargs, rfl, rfl, h0, r0⟩ := trodAll_cons hA
  obtain ⟨rfl, rfl, rfl⟩ := trodAll_nil r0
  obtain rfl : args = #[v0] := by cases args; simp_all
  obtain ⟨rfl, rfl⟩ := trodVars_none hV
  have hS : ∀ t ∈ ([9, 22, 51, 53] : List Nat), Ev.plainAt Ev.Γ0 [9, 22, 51, 53] t = true := List.all_eq_true.1 plain
  have hΓ : Ev.CtxOk Try.prog Ev.Γ0 := Ev.ctxOk_of rfl Ev.tyTab_ok
  obtain ⟨n0, cs0, wt0, av0⟩ := Ev.open_arg hΓ hS (t := 53) (r := Ev.ty53) (by decide) (by kernel_rfl) (hval 0 53 v0 rfl rfl) h0
  obtain ⟨x0, e0, b0⟩ := Ev.MPlan.of_wt _ _ wt0
  subst e0
  clear hA0 hval0 hsz0
  refine (Ev.law_out Ev.ok_laws_FnExactTaskRing (Ev.c_laws_FnExactTaskRing x0 b0) trivial (.cons av0 (.nil))).mono fun e W' ⟨he, bel⟩ => ?_
  subst he
  exact ⟨_, rfl, _, _, _, [], _, [], hW', trodAll_mk1 (shut_bool (by kernel_rfl) _), trodAll_cons_mk (RowKit.Below.trod laid (by kernel_rfl) (by decide +kernel) h0 bel (fun x hx => DataW.trod_lt _ _ _ _ h0.choose_spec x hx)) (trodAll_mk0), rfl, bel.frame _, fun h => by cases h⟩
theorem over : Rows.fnExactTaskRingRow.holds Try.pinned (OpenSpec.ofChange Rows.fnExactTaskRingSpec) :=
  OpenClaim.holds_of_wide 5 Try.f5 rfl rfl rfl rfl rfl rfl rfl ⟨rfl, rfl, rfl, rfl, rfl⟩ rfl rfl rfl rfl rfl (by kernel_rfl) Try.func5 (by kernel_rfl)
    (of_decide_eq_true (by kernel_rfl)) (by unfold Func.isWrapper; first | (rw [if_pos (by decide +kernel)]; kernel_rfl) | (rw [if_neg (by decide +kernel)]; exact ⟨rfl, rfl⟩))
    (fun os started H enc _ => lifted os started H enc)
theorem proved : Rows.FnExactTaskRingSaid := over
#print axioms proved
end Go.Proofs.Ytohfdpklicamkaa.fnExactTaskRing
namespace Go.Proofs.Ytohfdpklicamkaa
/-- The row, under a short name, for the claim. -/
theorem fnExactTaskRing_holds : Rows.FnExactTaskRingSaid := fnExactTaskRing.proved
end Go.Proofs.Ytohfdpklicamkaa

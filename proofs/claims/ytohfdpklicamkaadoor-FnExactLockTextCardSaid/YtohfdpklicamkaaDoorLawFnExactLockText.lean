/- The statement FnExactLockTextCardSaid: for every input the law answers true, and each argument reads as it did. Conditions: none. -/
import Derived.Test.YtohfdpklicamkaaDoorRows
import Derived.Test.YtohfdpklicamkaaDoorKall
import Derived.WalkKit
import Derived.ProofKit
import Derived.OpenShut
import Derived.ShutString
import Derived.ChangeOld
import Derived.Below
import Derived.Carry
import Derived.SizedLaws
import Derived.Test.YtohfdpklicamkaaDoorTie
import Derived.Test.YtohfdpklicamkaaDoorCards
import Derived.LaidMore
import Derived.Lay
import Derived.SevenTiedAt
import Derived.Stop.Joined
import Derived.Stop.LaidErr
set_option linter.unusedSimpArgs false
set_option linter.unusedVariables false
namespace Go.Proofs.YtohfdpklicamkaaDoor.fnExactLockText
open Go.ChangeShapes Go.WideShapes Go.ChangeAt Go.RowKit
theorem own : ownKnob Tryd.prog.godebug = none := by kernel_rfl
theorem plain : ([3, 9, 22, 30, 77, 79] : List Nat).all (Ev.plainAt Ev.Γ0 [3, 9, 22, 30, 77, 79]) = true := by kernel_rfl
theorem laid : laidOutB Tryd.prog = true := by kernel_rfl
set_option maxRecDepth 100000 in
theorem lifted (os : Os) (started : os.Started) (H : Type) (enc : TypeId × Value → H) :
    ReturnsInHanded {} Tryd.checked os 3 .any (fun w args => (Rows.fnExactLockTextSpec.pre enc Tryd.prog Tryd.f3 Rows.fnExactLockTextRow.domain false w args ∧ laidMetH Tryd.prog Rows.fnExactLockTextRow.laid w) ∧ sizedMet enc Tryd.prog Tryd.f3 (OpenSpec.ofChange Rows.fnExactLockTextSpec) false w args)
      (Rows.fnExactLockTextSpec.post enc Tryd.prog Tryd.f3 false true false false) := by
  refine returnsInHanded_of_change_and (C := Tryd.checked) (X := fun w _ => laidMetH Tryd.prog Rows.fnExactLockTextRow.laid w) (fun _ _ _ hh h => h.of_heap hh) own started (by kernel_rfl) Tryd.func3
    (ChangeSpec.witness_shaped (enc := enc) (C := Tryd.checked) (os := os) (X := fun w _ => laidMetH Tryd.prog Rows.fnExactLockTextRow.laid w) false (World.laidAll Tryd.prog os Rows.fnExactLockTextRow.laid) #[.slice none 0 0] 8 (World.laidAll_os _ _ _)
      (World.shaped_of_ZipB (by kernel_rfl) (by kernel_rfl)) (by kernel_rfl) (by kernel_rfl) (by kernel_rfl)
      (by rw [MakeChecks.laidMetH_plain _ _ _ (by kernel_rfl)]; exact laidMet_laidAll _ (by kernel_rfl) (by kernel_rfl))) ?_
  intro W base args ds gs before hval0 hW hcnd hsz0 hL _
  have hval : ∀ (j : Nat) t v, Tryd.f3.params[j]? = some t → args[j]? = some v → Value.okWide Tryd.prog W .any base t v := hval0
  have hW' := hW
  obtain ⟨p, q, hA0, hV, rfl, hfz, hnd⟩ := hW
  have hA : DataW.TrodAll enc Tryd.prog W 0 (fun _ => true) true Tryd.f3.params.toList args.toList ds p := hA0
  rw [Tryd.params3] at hA hval
  obtain ⟨v0, vs0, d0, ds0, p0, q0, hargs, rfl, rfl, h0, r0⟩ := trodAll_cons hA
  obtain ⟨rfl, rfl, rfl⟩ := trodAll_nil r0
  obtain rfl : args = #[v0] := by cases args; simp_all
  obtain ⟨rfl, rfl⟩ := trodVars_none hV
  have hS : ∀ t ∈ ([3, 9, 22, 30, 77, 79] : List Nat), Ev.plainAt Ev.Γ0 [3, 9, 22, 30, 77, 79] t = true := List.all_eq_true.1 plain
  have hΓ : Ev.CtxOk Tryd.prog Ev.Γ0 := Ev.ctxOk_of rfl Ev.tyTab_ok
  obtain ⟨n0, cs0, wt0, av0⟩ := Ev.open_arg hΓ hS (t := 22) (r := Ev.ty22) (by decide) (by kernel_rfl) (hval 0 22 v0 rfl rfl) h0
  obtain ⟨x0, e0, b0⟩ := Ev.WT_slice (e0 := Ev.MPick.enc) (b := (Ev.MPick.Bd maxLen)) wt0 (by kernel_rfl : Ev.Γ0.ty 22 = some Ev.ty22) rfl (by kernel_rfl : Ev.Γ0.ty 79 = some Ev.ty79) (fun n r h => Ev.MPick.of_wt _ _ h)
  subst e0
  clear hA0 hval0 hsz0
  have hL2 : laidMet Tryd.prog Rows.fnExactLockTextRow.laid W := by
    have h := hL
    rw [MakeChecks.laidMetH_plain _ _ _ (by kernel_rfl)] at h
    exact h
  have hT : Lib.TabIs Tryd.prog W "internal/strconv.uint64pow10" .u64 Lib.pow10Tab := Lib.tabIs_of_head (g := 1) (t := 224) (e := 218) (n := 20) (by kernel_rfl) (by kernel_rfl) (by kernel_rfl) (by kernel_rfl) (by kernel_rfl) (by kernel_rfl) (show laidMet Tryd.prog (("internal/strconv.uint64pow10", Lib.tabData .u64 Lib.pow10Tab) :: Rows.fnExactLockTextRow.laid.tail.tail.tail) W from (laidMet.tail (laidMet.tail hL2)))
  refine (Ev.law_out Ev.ok_laws_FnExactLockText (Ev.c_laws_FnExactLockText x0 b0) (Ev.okTab_start (by kernel_rfl) hT) (.cons av0 (.nil))).mono fun e W' ⟨he, bel⟩ => ?_
  subst he
  exact ⟨_, rfl, _, _, _, [], _, [], hW', trodAll_mk1 (shut_bool (by kernel_rfl) _), trodAll_cons_mk (RowKit.Below.trod laid (by kernel_rfl) (by decide +kernel) h0 bel (fun x hx => DataW.trod_lt _ _ _ _ h0.choose_spec x hx)) (trodAll_mk0), rfl, bel.frame _, fun h => by cases h⟩
theorem over : Rows.fnExactLockTextRow.holds Tryd.pinned (OpenSpec.ofChange Rows.fnExactLockTextSpec) :=
  OpenClaim.holds_of_wide 3 Tryd.f3 rfl rfl rfl rfl rfl rfl rfl ⟨rfl, rfl, rfl, rfl, rfl⟩ rfl rfl rfl rfl rfl (by kernel_rfl) Tryd.func3 (by kernel_rfl)
    (of_decide_eq_true (by kernel_rfl)) (by unfold Func.isWrapper; first | (rw [if_pos (by decide +kernel)]; kernel_rfl) | (rw [if_neg (by decide +kernel)]; exact ⟨rfl, rfl⟩))
    (fun os started H enc _ => lifted os started H enc)
theorem proved : Rows.FnExactLockTextCardSaid :=
  Claim7.holds_tied_plain_at .later [] [.data, .data, .data] true (true, "6b083d3daff93eadac5347c7b81669a03240aef8e316ad55ae7195f6f702cd4c") false
    over (fun _ h => by cases h) (by kernel_rfl) (fun _ h => by cases h) fnExactLockText_row_tie rfl ⟨rfl, rfl⟩ (by kernel_rfl) rfl
    (fun f fn hf hfn => by
      obtain rfl : f = 3 := Option.some.inj ((show Tryd.prog.funcNamed "loop.example/g00464/laws.FnExactLockText" = some 3 by kernel_rfl).symm.trans hf) |>.symm
      obtain rfl : fn = Tryd.f3 := (Option.some.inj (Tryd.func3.symm.trans hfn)).symm
      exact ⟨by kernel_rfl, fun j t ht => by
        rw [Tryd.params3] at ht
        have hm : t ∈ [22] := by simpa using Array.mem_of_getElem? ht
        have hall : ([22].all fun u => !Tryd.prog.wantsStandIn u) = true := by kernel_rfl
        exact (show Tryd.prog.wantsStandIn t = false by simpa using List.all_eq_true.1 hall t hm)⟩)
    (by kernel_rfl)
#print axioms proved
end Go.Proofs.YtohfdpklicamkaaDoor.fnExactLockText
namespace Go.Proofs.YtohfdpklicamkaaDoor
/-- The card, under a short name, for the claim. -/
theorem fnExactLockText_holds : Rows.FnExactLockTextCardSaid := fnExactLockText.proved
end Go.Proofs.YtohfdpklicamkaaDoor

/- The statement FnExactParseLockCardSaid: for every input the law answers true, and each argument reads as it did. Conditions: none. -/
import Derived.Test.YtholafaogipaiaaDoorRows
import Derived.Test.YtholafaogipaiaaDoorKFnExactParseLock
import Derived.WalkKit
import Derived.ProofKit
import Derived.OpenShut
import Derived.ShutString
import Derived.ChangeOld
import Derived.Below
import Derived.Carry
import Derived.SizedLaws
import Derived.Test.YtholafaogipaiaaDoorTie
import Derived.Test.YtholafaogipaiaaDoorCards
import Derived.LaidMore
import Derived.Lay
import Derived.SevenTiedAt
import Derived.Stop.Joined
import Derived.Stop.LaidErr
set_option linter.unusedSimpArgs false
set_option linter.unusedVariables false
namespace Go.Proofs.YtholafaogipaiaaDoor.fnExactParseLock
open Go.ChangeShapes Go.WideShapes Go.ChangeAt Go.RowKit
theorem own : ownKnob Tryd.prog.godebug = none := by kernel_rfl
theorem plain : ([9] : List Nat).all (Ev.plainAt Ev.Γ0 [9]) = true := by kernel_rfl
theorem laid : laidOutB Tryd.prog = true := by kernel_rfl
set_option maxRecDepth 100000 in
theorem lifted (os : Os) (started : os.Started) (H : Type) (enc : TypeId × Value → H) :
    ReturnsInHanded {} Tryd.checked os 3 .any (fun w args => (Rows.fnExactParseLockSpec.pre enc Tryd.prog Tryd.f3 Rows.fnExactParseLockRow.domain false w args ∧ laidMetH Tryd.prog Rows.fnExactParseLockRow.laid w) ∧ sizedMet enc Tryd.prog Tryd.f3 (OpenSpec.ofChange Rows.fnExactParseLockSpec) false w args)
      (Rows.fnExactParseLockSpec.post enc Tryd.prog Tryd.f3 false true false false) := by
  refine returnsInHanded_of_change_and (C := Tryd.checked) (X := fun w _ => laidMetH Tryd.prog Rows.fnExactParseLockRow.laid w) (fun _ _ _ hh h => h.of_heap hh) own started (by kernel_rfl) Tryd.func3
    (ChangeSpec.witness_shaped (enc := enc) (C := Tryd.checked) (os := os) (X := fun w _ => laidMetH Tryd.prog Rows.fnExactParseLockRow.laid w) false (World.laidAll Tryd.prog os Rows.fnExactParseLockRow.laid) #[.string ⟨#[]⟩] 8 (World.laidAll_os _ _ _)
      (World.shaped_of_ZipB (by kernel_rfl) (by kernel_rfl)) (by kernel_rfl) (by kernel_rfl) (by kernel_rfl)
      (by rw [MakeChecks.laidMetH_plain _ _ _ (by kernel_rfl)]; exact laidMet_laidAll _ (by kernel_rfl) (by kernel_rfl))) ?_
  intro W base args ds gs before hval0 hW hcnd hsz0 hL _
  have hval : ∀ (j : Nat) t v, Tryd.f3.params[j]? = some t → args[j]? = some v → Value.okWide Tryd.prog W .any base t v := hval0
  have hW' := hW
  obtain ⟨p, q, hA0, hV, rfl, hfz, hnd⟩ := hW
  have hA : DataW.TrodAll enc Tryd.prog W 0 (fun _ => true) true Tryd.f3.params.toList args.toList ds p := hA0
  rw [Tryd.params3] at hA hval
  obtain ⟨v0, vs0, d0, ds0, p0, q0, hargs, rfl, rfl, h0, r0⟩ := trodAll_cons hA
  obtain ⟨rfl, rfl, rfl⟩ := trodAll_nil r0
  obtain rfl : args = #[v0] := by cases args; simp_all
  obtain ⟨rfl, rfl⟩ := trodVars_none hV
  have hS : ∀ t ∈ ([9] : List Nat), Ev.plainAt Ev.Γ0 [9] t = true := List.all_eq_true.1 plain
  have hΓ : Ev.CtxOk Tryd.prog Ev.Γ0 := Ev.ctxOk_of rfl Ev.tyTab_ok
  obtain ⟨n0, cs0, wt0, av0⟩ := Ev.open_arg hΓ hS (t := 9) (r := Ev.ty9) (by decide) (by kernel_rfl) (hval 0 9 v0 rfl rfl) h0
  obtain ⟨x0, e0, b0⟩ := Ev.WT_str wt0 (by kernel_rfl : Ev.Γ0.ty 9 = some Ev.ty9) rfl
  subst e0
  clear hA0 hval0 hsz0
  have hL2 : laidMet Tryd.prog Rows.fnExactParseLockRow.laid W := by
    have h := hL
    rw [MakeChecks.laidMetH_plain _ _ _ (by kernel_rfl)] at h
    exact h
  have hT : Lib.TabIs Tryd.prog W "internal/strconv.uint64pow10" .u64 Lib.pow10Tab := Lib.tabIs_of_head (g := 3) (t := 93) (e := 87) (n := 20) (by kernel_rfl) (by kernel_rfl) (by kernel_rfl) (by kernel_rfl) (by kernel_rfl) (by kernel_rfl) (show laidMet Tryd.prog (("internal/strconv.uint64pow10", Lib.tabData .u64 Lib.pow10Tab) :: Rows.fnExactParseLockRow.laid.tail.tail.tail) W from (laidMet.tail (laidMet.tail hL2)))
  refine (Ev.law_out Ev.ok_laws_FnExactParseLock (Ev.c_laws_FnExactParseLock x0 b0) (Ev.okTab_start (by kernel_rfl) hT) (.cons av0 (.nil))).mono fun e W' ⟨he, bel⟩ => ?_
  subst he
  exact ⟨_, rfl, _, _, _, [], _, [], hW', trodAll_mk1 (shut_bool (by kernel_rfl) _), trodAll_cons_mk (RowKit.Below.trod laid (by kernel_rfl) (by decide +kernel) h0 bel (fun x hx => DataW.trod_lt _ _ _ _ h0.choose_spec x hx)) (trodAll_mk0), rfl, bel.frame _, fun h => by cases h⟩
theorem over : Rows.fnExactParseLockRow.holds Tryd.pinned (OpenSpec.ofChange Rows.fnExactParseLockSpec) :=
  OpenClaim.holds_of_wide 3 Tryd.f3 rfl rfl rfl rfl rfl rfl rfl ⟨rfl, rfl, rfl, rfl, rfl⟩ rfl rfl rfl rfl rfl (by kernel_rfl) Tryd.func3 (by kernel_rfl)
    (of_decide_eq_true (by kernel_rfl)) (by unfold Func.isWrapper; first | (rw [if_pos (by decide +kernel)]; kernel_rfl) | (rw [if_neg (by decide +kernel)]; exact ⟨rfl, rfl⟩))
    (fun os started H enc _ => lifted os started H enc)
theorem proved : Rows.FnExactParseLockCardSaid :=
  Claim7.holds_tied_plain_at .later [] [.data, .data, .data, .data, .pinned] true (true, "411e7d433cec63ef594aedbac1b54780d063ffac7dc3e2f56ba08d1d74d6dc5b") false
    over (fun _ h => by cases h) (by kernel_rfl) (fun _ h => by cases h) fnExactParseLock_row_tie rfl ⟨rfl, rfl⟩ (by kernel_rfl) rfl
    (fun f fn hf hfn => by
      obtain rfl : f = 3 := Option.some.inj ((show Tryd.prog.funcNamed "loop.example/g00464/laws.FnExactParseLock" = some 3 by kernel_rfl).symm.trans hf) |>.symm
      obtain rfl : fn = Tryd.f3 := (Option.some.inj (Tryd.func3.symm.trans hfn)).symm
      exact ⟨by kernel_rfl, fun j t ht => by
        rw [Tryd.params3] at ht
        have hm : t ∈ [9] := by simpa using Array.mem_of_getElem? ht
        have hall : ([9].all fun u => !Tryd.prog.wantsStandIn u) = true := by kernel_rfl
        exact (show Tryd.prog.wantsStandIn t = false by simpa using List.all_eq_true.1 hall t hm)⟩)
    (by kernel_rfl)
#print axioms proved
end Go.Proofs.YtholafaogipaiaaDoor.fnExactParseLock
namespace Go.Proofs.YtholafaogipaiaaDoor
/-- The card, under a short name, for the claim. -/
theorem fnExactParseLock_holds : Rows.FnExactParseLockCardSaid := fnExactParseLock.proved
end Go.Proofs.YtholafaogipaiaaDoor

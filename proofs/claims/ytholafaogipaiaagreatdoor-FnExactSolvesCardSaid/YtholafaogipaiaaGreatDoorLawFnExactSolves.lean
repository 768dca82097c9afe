/- Conditions: none. Functions: faa cmp_Compare_int, fab cmp_Compare_string, fac cmp_Or_int, fad cmp_isNaN_int, fae cmp_isNaN_string, faf impl_CmpOk, fag impl_InRange, fah impl_MayTake, fai impl_NumText, faj impl_ParseNum, fak impl_ParseRange, fal impl_ParseVer, fam impl_SameVer, fan impl_Solves, fao impl_VerOk, fap impl_VerText, faq impl_below, far impl_caret, fas impl_cmpsOf, fat impl_compareVer, fau impl_compareWords, fav impl_entryAt, faw impl_entryAt_1, fax impl_inRange, fay impl_isFigure, faz impl_isFigures, fba impl_isSmall, fbb impl_listOf, fbc impl_meets, fbd impl_nextOf, fbe impl_partOf, fbf impl_pickAt, fbg impl_pickAt_1, fbh impl_preOk, fbi impl_takes, fbj impl_wordCmps, fbk internal_bytealg_Cutover, fbl internal_bytealg_IndexRabinKarp_string, fbm internal_bytealg_hashStr_string, fbn internal_stringslite_Cut, fbo internal_stringslite_CutPrefix, fbp internal_stringslite_HasPrefix, fbq internal_stringslite_Index, fbr internal_stringslite_IndexByte, fbs laws_FnExactSolves, fbt laws_eqEntry, fbu laws_eqEntryS, fbv laws_eqNeed, fbw laws_eqNeedS, fbx laws_eqPick, fby laws_eqPickS, fbz laws_eqStringS, fca laws_eqVer, fcb laws_szEntry, fcc laws_szEntryS, fcd laws_szNeed, fce laws_szNeedS, fcf laws_szPick, fcg laws_szPickS, fch laws_szStringS, fci laws_szVer, fcj laws_toEntry, fck laws_toEntryS, fcl laws_toNeed, fcm laws_toNeedS, fcn laws_toPick, fco laws_toPickS, fcp laws_toStringS, fcq laws_toVer, fcr slices_CompareFunc_string, fcs slices_Equal_string, fct slices_IndexFunc_Entry, fcu slices_IndexFunc_Pick, fcv spec_CmpOk, fcw spec_EntryOf, fcx spec_InRange, fcy spec_LessVer, fcz spec_MayTake, fda spec_ParseNum, fdb spec_ParseRange, fdc spec_ParseVer, fdd spec_PickOf, fde spec_SameVer, fdf spec_Solves, fdg spec_Split, fdh spec_VerOk, fdi spec_l1Digit, fdj spec_l1In, fdk spec_l1Small, fdl spec_l2SameTexts, fdm spec_l3Copy, fdn spec_l3Digits, fdo spec_l3LessPart, fdp spec_l3LessPre, fdq spec_l3Part, fdr spec_l3SameCore, fds spec_l4Below, fdt spec_l4Caret, fdu spec_l4From, fdv spec_l4Good, fdw spec_l4List, fdx spec_l4Make, fdy spec_l4Next, fdz spec_l4Read, fea spec_l4Sides, feb spec_l4Tilde, fec spec_l4Trim, fed spec_l4Word, fee spec_l8Copy, fef spec_l9Met, feg strconv_Itoa, feh strings_Count, fei strings_Cut, fej strings_CutPrefix, fek strings_Index, fel strings_Join, fem strings_Split, fen strings_Trim, feo strings_explode, fep strings_genSplit, feq unicode_utf8_DecodeRuneInString, fer unicode_utf8_RuneCountInString, fes unicode_utf8_decodeRuneInStringSlow. -/
import Derived.Test.YtholafaogipaiaaGreatDoorRows
import Derived.Test.YtholafaogipaiaaGreatDoorKall
import Derived.WalkKit
import Derived.ProofKit
import Derived.OpenShut
import Derived.ShutString
import Derived.ChangeOld
import Derived.Below
import Derived.Carry
import Derived.SizedLaws
import Derived.Test.YtholafaogipaiaaGreatDoorTie
import Derived.Test.YtholafaogipaiaaGreatDoorCards
import Derived.LaidMore
import Derived.Lay
import Derived.SevenTiedAt
import Derived.Stop.Joined
import Derived.Stop.LaidErr
set_option linter.unusedSimpArgs false
set_option linter.unusedVariables false
namespace Go.Proofs.YtholafaogipaiaaGreatDoor.fnExactSolves
open Go.ChangeShapes Go.WideShapes Go.ChangeAt Go.RowKit
theorem own : ownKnob Tryz.prog.godebug = none := by kernel_rfl
theorem plain : ([3, 9, 22, 23, 24, 46, 82, 84, 87, 90] : List Nat).all (Ev.plainAt Ev.Γ0 [3, 9, 22, 23, 24, 46, 82, 84, 87, 90]) = true := by kernel_rfl
theorem laid : laidOutB Tryz.prog = true := by kernel_rfl
theorem handed_shaped {H : Type} {enc : TypeId × Value → H} {a : Assume} {C : Checked} {os : Os} {f : FuncId} {fn : Func} {s : ChangeSpec} {conds : List PathCond} {apart fresh handsOn again : Bool} {X : World → Array Value → Prop}
    (hX : ∀ (w w' : World) (args : Array Value), w.heap = w'.heap → X w args → X w' args)
    (own : ownKnob C.prog.godebug = none) (started : os.Started) (noInit : C.prog.inits.idxOf? f = none) (hfn : C.prog.funcs[f]? = some fn)
    (witness : ∃ (w : World) (tape : Tape) (i : Input), w.os = os ∧ (w.forCall tape i).Shaped C.prog ∧ i.vars = [] ∧ Input.okWide C.prog (w.forCall tape i) .any w.heap.size f i ∧
      ((s.pre enc C.prog fn conds apart (w.forCall tape i).memory i.args ∧ X (w.forCall tape i).memory i.args) ∧ sizedMet enc C.prog fn (OpenSpec.ofChange s) apart (w.forCall tape i).memory i.args) ∧ a.holds C.prog (lone (Frame.enter C.prog f i.args .normal) [] (w.forCall tape i)))
    (contract : ∀ (W : World) (base : Nat) (args : Array Value) (ds gs : List (DataW H)) (before : List MemPlace), W.ShapedOpen C.prog →
      (∀ (j : Nat) t v, fn.params[j]? = some t → args[j]? = some v → Value.okWide C.prog W .any base t v) →
      DataW.Whole enc C.prog fn.params.toList s.vars apart W args.toList ds gs before →
      conds.all (PathCond.test C.prog ⟨fn.params.toList, ds, s.plain.varTypes C.prog, gs⟩) = true →
      (DataW.weightsEach C.prog (fn.params.toList ++ s.plain.varTypes C.prog) (ds ++ gs)).all (· ≤ reachBytes) = true → X W args →
      a.holds C.prog (lone (Frame.enter C.prog f args .normal) [] W) →
      Calls C.prog f args W fun e W' => ∃ v, e = .returned v ∧ s.post enc C.prog fn apart fresh handsOn again W args v W') :
    ReturnsInHanded a C os f .any (fun w args => (s.pre enc C.prog fn conds apart w args ∧ X w args) ∧ sizedMet enc C.prog fn (OpenSpec.ofChange s) apart w args) (s.post enc C.prog fn apart fresh handsOn again) := by
  refine returnsInHanded_of_calls own started noInit witness ?_
  intro w tape i _ hsh _ hok hpre hholds
  obtain ⟨_, _, _, fn', hfn', _, _, _, _, hval⟩ := hok
  have e : fn' = fn := Option.some.inj (hfn'.symm.trans hfn)
  subst e
  obtain ⟨⟨⟨ds, gs, before, hw, hc⟩, hx⟩, hz⟩ := hpre
  have hw' := DataW.Whole.of_heap (w' := w.forCall tape i) (by rfl) hw
  refine (contract (w.forCall tape i) w.heap.size i.args ds gs before hsh hval hw' hc (hz.weights hw) (hX _ _ _ (by rfl) hx) hholds).mono fun e W' ⟨v, he, hp⟩ => ?_
  subst he
  exact ChangeSpec.post_blind hp
set_option maxRecDepth 100000 in
theorem lifted (os : Os) (started : os.Started) (H : Type) (enc : TypeId × Value → H) :
    ReturnsInHanded {} Tryz.checked os 3 .any (fun w args => (Rows.fnExactSolvesSpec.pre enc Tryz.prog Tryz.f3 Rows.fnExactSolvesRow.domain false w args ∧ laidMetH Tryz.prog Rows.fnExactSolvesRow.laid w) ∧ sizedMet enc Tryz.prog Tryz.f3 (OpenSpec.ofChange Rows.fnExactSolvesSpec) false w args)
      (Rows.fnExactSolvesSpec.post enc Tryz.prog Tryz.f3 false true false false) := by
  refine handed_shaped (C := Tryz.checked) (X := fun w _ => laidMetH Tryz.prog Rows.fnExactSolvesRow.laid w) (fun _ _ _ hh h => h.of_heap hh) own started (by kernel_rfl) Tryz.func3
    (ChangeSpec.witness_shaped (enc := enc) (C := Tryz.checked) (os := os) (X := fun w _ => laidMetH Tryz.prog Rows.fnExactSolvesRow.laid w) false (World.laidAll Tryz.prog os Rows.fnExactSolvesRow.laid) #[.slice none 0 0, .slice none 0 0, .slice none 0 0] 8 (World.laidAll_os _ _ _)
      (World.shaped_of_ZipB (by kernel_rfl) (by kernel_rfl)) (by kernel_rfl) (by kernel_rfl) (by kernel_rfl)
      (by rw [MakeChecks.laidMetH_plain _ _ _ (by kernel_rfl)]; exact laidMet_laidAll _ (by kernel_rfl) (by kernel_rfl))) ?_
  intro W base args ds gs before hSh hval0 hW hcnd hsz0 hL _
  have hval : ∀ (j : Nat) t v, Tryz.f3.params[j]? = some t → args[j]? = some v → Value.okWide Tryz.prog W .any base t v := hval0
  have hW' := hW
  obtain ⟨p, q, hA0, hV, rfl, hfz, hnd⟩ := hW
  have hA : DataW.TrodAll enc Tryz.prog W 0 (fun _ => true) true Tryz.f3.params.toList args.toList ds p := hA0
  rw [Tryz.params3] at hA hval
  obtain ⟨v0, vs0, d0, ds0, p0, q0, hargs, rfl, rfl, h0, r0⟩ := trodAll_cons hA
  obtain ⟨v1, vs1, d1, ds1, p1, q1, rfl, rfl, rfl, h1, r1⟩ := trodAll_cons r0
  obtain ⟨v2, vs2, d2, ds2, p2, q2, rfl, rfl, rfl, h2, r2⟩ := trodAll_cons r1
  obtain ⟨rfl, rfl, rfl⟩ := trodAll_nil r2
  obtain rfl : args = #[v0, v1, v2] := by cases args; simp_all
  obtain ⟨rfl, rfl⟩ := trodVars_none hV
  have hS : ∀ t ∈ ([3, 9, 22, 23, 24, 46, 82, 84, 87, 90] : List Nat), Ev.plainAt Ev.Γ0 [3, 9, 22, 23, 24, 46, 82, 84, 87, 90] t = true := List.all_eq_true.1 plain
  have hΓ : Ev.CtxOk Tryz.prog Ev.Γ0 := Ev.ctxOk_of rfl Ev.tyTab_ok
  obtain ⟨n0, cs0, wt0, av0⟩ := Ev.open_arg hΓ hS (t := 22) (r := Ev.ty22) (by decide) (by kernel_rfl) (hval 0 22 v0 rfl rfl) h0
  obtain ⟨x0, e0, b0⟩ := Ev.WT_slice (e0 := Ev.MEntry.enc) (b := (Ev.MEntry.Bd maxLen)) wt0 (by kernel_rfl : Ev.Γ0.ty 22 = some Ev.ty22) rfl (by kernel_rfl : Ev.Γ0.ty 84 = some Ev.ty84) (fun n r h => Ev.MEntry.of_wt _ _ h)
  subst e0
  obtain ⟨n1, cs1, wt1, av1⟩ := Ev.open_arg hΓ hS (t := 23) (r := Ev.ty23) (by decide) (by kernel_rfl) (hval 1 23 v1 rfl rfl) h1
  obtain ⟨x1, e1, b1⟩ := Ev.WT_slice (e0 := Ev.MNeed.enc) (b := (Ev.MNeed.Bd maxLen)) wt1 (by kernel_rfl : Ev.Γ0.ty 23 = some Ev.ty23) rfl (by kernel_rfl : Ev.Γ0.ty 87 = some Ev.ty87) (fun n r h => Ev.MNeed.of_wt _ _ h)
  subst e1
  obtain ⟨n2, cs2, wt2, av2⟩ := Ev.open_arg hΓ hS (t := 24) (r := Ev.ty24) (by decide) (by kernel_rfl) (hval 2 24 v2 rfl rfl) h2
  obtain ⟨x2, e2, b2⟩ := Ev.WT_slice (e0 := Ev.MPick.enc) (b := (Ev.MPick.Bd maxLen)) wt2 (by kernel_rfl : Ev.Γ0.ty 24 = some Ev.ty24) rfl (by kernel_rfl : Ev.Γ0.ty 90 = some Ev.ty90) (fun n r h => Ev.MPick.of_wt _ _ h)
  subst e2
  clear hA0 hval0 hsz0
  have hL2 : laidMet Tryz.prog Rows.fnExactSolvesRow.laid W := by
    have h := hL
    rw [MakeChecks.laidMetH_plain _ _ _ (by kernel_rfl)] at h
    exact h
  have hT : Lib.TabIs Tryz.prog W "internal/strconv.uint64pow10" .u64 Lib.pow10Tab := Lib.tabIs_of_head (g := 3) (t := 339) (e := 280) (n := 20) (by kernel_rfl) (by kernel_rfl) (by kernel_rfl) (by kernel_rfl) (by kernel_rfl) (by kernel_rfl) (show laidMet Tryz.prog (("internal/strconv.uint64pow10", Lib.tabData .u64 Lib.pow10Tab) :: Rows.fnExactSolvesRow.laid.tail.tail.tail) W from (laidMet.tail (laidMet.tail hL2)))
  refine (Ev.law_out Ev.ok_fbs (Ev.c_fbs x0 x1 x2 b0 b1 b2) ⟨Ev.okTab_start (by kernel_rfl) hT, Ev.okMax_start (Ev.okT_shape _ hSh)⟩ (.cons av0 (.cons av1 (.cons av2 (.nil))))).mono fun e W' ⟨he, bel⟩ => ?_
  subst he
  exact ⟨_, rfl, _, _, _, [], _, [], hW', trodAll_mk1 (shut_bool (by kernel_rfl) _), trodAll_cons_mk (RowKit.Below.trod laid (by kernel_rfl) (by decide +kernel) h0 bel (fun x hx => DataW.trod_lt _ _ _ _ h0.choose_spec x hx)) (trodAll_cons_mk (RowKit.Below.trod laid (by kernel_rfl) (by decide +kernel) h1 bel (fun x hx => DataW.trod_lt _ _ _ _ h1.choose_spec x hx)) (trodAll_cons_mk (RowKit.Below.trod laid (by kernel_rfl) (by decide +kernel) h2 bel (fun x hx => DataW.trod_lt _ _ _ _ h2.choose_spec x hx)) (trodAll_mk0))), rfl, bel.frame _, fun h => by cases h⟩
theorem q_wf : Rows.fnExactSolvesRow.wf (OpenSpec.ofChange Rows.fnExactSolvesSpec) = true := by kernel_rfl
theorem q_rowed : mapsRowed Tryz.prog = true := by kernel_rfl
theorem q_place : (Rows.fnExactSolvesRow.inPlace == Tryz.prog.inPlace 3) = true := by kernel_rfl
theorem q_unf : (Rows.fnExactSolvesRow.unfollowed == Tryz.prog.unfollowed 3) = true := by kernel_rfl
theorem q_rec : (Rows.fnExactSolvesRow.recurses == Tryz.prog.recurses 3) = true := by kernel_rfl
theorem q_named : (Rows.fnExactSolvesRow.named == Tryz.prog.varsNamed 3) = true := by kernel_rfl
theorem q_heard : Tryz.prog.stopsHeard = true := by kernel_rfl
theorem q_enter : Tryz.prog.mayEnter = true := by kernel_rfl
theorem q_lifted : (Rows.fnExactSolvesRow.lifted == Tryz.prog.liftsFinal) = true := by kernel_rfl
theorem q_keys : (Rows.fnExactSolvesRow.plainKeys == Tryz.prog.plainKeys) = true := by kernel_rfl
theorem joined : joinedFacts Tryz.prog 3 Tryz.f3 Rows.fnExactSolvesSpec Rows.fnExactSolvesRow = true := by
  simp only [joinedFacts, q_wf, laid, q_rowed, q_place, q_unf, q_rec, q_named, q_heard, q_enter, q_lifted, q_keys, Bool.true_and, Bool.and_true]
  kernel_rfl
theorem over : Rows.fnExactSolvesRow.holds Tryz.pinned (OpenSpec.ofChange Rows.fnExactSolvesSpec) :=
  OpenClaim.holds_of_wide 3 Tryz.f3 rfl rfl rfl rfl rfl rfl rfl ⟨rfl, rfl, rfl, rfl, rfl⟩ rfl rfl rfl rfl rfl (by as_aux_lemma => kernel_rfl) Tryz.func3 joined
    (of_decide_eq_true (by as_aux_lemma => kernel_rfl)) (by unfold Func.isWrapper; first | (rw [if_pos (by decide +kernel)]; kernel_rfl) | (rw [if_neg (by decide +kernel)]; exact ⟨rfl, rfl⟩))
    (fun os started H enc _ => lifted os started H enc)
theorem proved : Rows.FnExactSolvesCardSaid :=
  Claim7.holds_tied_plain_at .later [] [.data, .data, .data, .data, .pinned] true (true, "64123304e32161fbc38d25ab5148e26e3e4d11cc6757e5d6d6acebfe44a2e48c") false
    over (fun _ h => by cases h) (by as_aux_lemma => kernel_rfl) (fun _ h => by cases h) fnExactSolves_row_tie rfl ⟨rfl, rfl⟩ (by as_aux_lemma => kernel_rfl) rfl
    (fun f fn hf hfn => by
      obtain rfl : f = 3 := Option.some.inj ((show Tryz.prog.funcNamed "loop.example/g00464/laws.FnExactSolves" = some 3 by kernel_rfl).symm.trans hf) |>.symm
      obtain rfl : fn = Tryz.f3 := (Option.some.inj (Tryz.func3.symm.trans hfn)).symm
      exact ⟨by kernel_rfl, fun j t ht => by
        rw [Tryz.params3] at ht
        have hm : t ∈ [22, 23, 24] := by simpa using Array.mem_of_getElem? ht
        have hall : ([22, 23, 24].all fun u => !Tryz.prog.wantsStandIn u) = true := by kernel_rfl
        exact (show Tryz.prog.wantsStandIn t = false by simpa using List.all_eq_true.1 hall t hm)⟩)
    (by as_aux_lemma => kernel_rfl)
#print axioms proved
end Go.Proofs.YtholafaogipaiaaGreatDoor.fnExactSolves
namespace Go.Proofs.YtholafaogipaiaaGreatDoor
theorem fnExactSolves_holds : Rows.FnExactSolvesCardSaid := fnExactSolves.proved
end Go.Proofs.YtholafaogipaiaaGreatDoor

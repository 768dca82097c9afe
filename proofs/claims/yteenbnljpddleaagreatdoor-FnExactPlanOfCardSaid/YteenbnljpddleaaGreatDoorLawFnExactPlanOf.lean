/- The statement FnExactPlanOfCardSaid: for every input the law answers true, and each argument reads as it did. Conditions: none. -/
/- Functions: faa impl_FindPack, fab impl_FindPack_1, fac impl_GlobOk, fad impl_NameOk, fae impl_NumText, faf impl_OnOk, fag impl_PackOk, fah impl_PacksOk, fai impl_ParseNum, faj impl_ParseRange, fak impl_ParseTask, fal impl_ParseVer, fam impl_PlainOk, fan impl_PlanOf, fao impl_PlanOf_1, fap impl_RuleAt, faq impl_RulesOk, far impl_Sorted, fas impl_VerOk, fat impl_VerText, fau impl_WaitsFor, fav impl_below, faw impl_caret, fax impl_cmdAt, fay impl_cmdOk, faz impl_cmpsOf, fba impl_copyRule, fbb impl_hasTask, fbc impl_inRange, fbd impl_isAscending, fbe impl_isFigure, fbf impl_isFigures, fbg impl_isPathByte, fbh impl_isPlain, fbi impl_isSmall, fbj impl_isThere, fbk impl_listOf, fbl impl_namesOk, fbm impl_needOk, fbn impl_needsOk, fbo impl_nextOf, fbp impl_partOf, fbq impl_pieceOk, fbr impl_preOk, fbs impl_ruleOk, fbt impl_told, fbu impl_unitOf, fbv impl_waits, fbw impl_wordCmps, fbx internal_bytealg_Cutover, fby internal_bytealg_IndexRabinKarp_string, fbz internal_bytealg_hashStr_string, fca internal_stringslite_Cut, fcb internal_stringslite_CutPrefix, fcc internal_stringslite_HasPrefix, fcd internal_stringslite_Index, fce internal_stringslite_IndexByte, fcf internal_stringslite_TrimPrefix, fcg laws_FnExactPlanOf, fch laws_eqCmd, fci laws_eqCmdS, fcj laws_eqNeed, fck laws_eqNeedS, fcl laws_eqPack, fcm laws_eqPackS, fcn laws_eqPlan, fco laws_eqRule, fcp laws_eqRuleS, fcq laws_eqStringS, fcr laws_eqStringSS, fcs laws_heldPlan, fct laws_heldStringS, fcu laws_heldStringSS, fcv laws_markCmdS, fcw laws_markNeedS, fcx laws_markPackS, fcy laws_markPlan, fcz laws_markRuleS, fda laws_markStringS, fdb laws_markStringSS, fdc laws_markText, fdd laws_szCmd, fde laws_szCmdS, fdf laws_szNeed, fdg laws_szNeedS, fdh laws_szPack, fdi laws_szPackS, fdj laws_szRule, fdk laws_szRuleS, fdl laws_szStringS, fdm laws_toCmd, fdn laws_toCmdS, fdo laws_toNeed, fdp laws_toNeedS, fdq laws_toPack, fdr laws_toPackS, fds laws_toRule, fdt laws_toRuleS, fdu laws_toStringS, fdv slices_Clip_string, fdw slices_Clone_string, fdx slices_Compact_string, fdy slices_Contains_string, fdz slices_IndexFunc_Pack, fea slices_Index_string, feb slices_Sort_string, fec spec_FindPack, fed spec_GlobOk, fee spec_NameOk, fef spec_OnOk, feg spec_PackOk, feh spec_PacksOk, fei spec_ParseNum, fej spec_ParseRange, fek spec_ParseTask, fel spec_ParseVer, fem spec_PlainOk, fen spec_PlanOf, feo spec_RuleAt, fep spec_RulesOk, feq spec_Sorted, fer spec_Split, fes spec_TaskName, fet spec_VerOk, feu spec_WaitsFor, fev spec_l12Copy, few spec_l12Rule, fex spec_l13Cmd, fey spec_l13On, fez spec_l13There, ffa spec_l13Waits, ffb spec_l1Digit, ffc spec_l1Has, ffd spec_l1In, ffe spec_l1Small, fff spec_l3Digits, ffg spec_l3Part, ffh spec_l4Below, ffi spec_l4Caret, ffj spec_l4From, ffk spec_l4Good, ffl spec_l4List, ffm spec_l4Make, ffn spec_l4Next, ffo spec_l4Read, ffp spec_l4Sides, ffq spec_l4Tilde, ffr spec_l4Trim, ffs spec_l4Word, fft spec_l5Letter, ffu spec_l6Class, ffv spec_l6Piece, ffw spec_l7Ascending, ffx spec_l7Cmds, ffy spec_l7Names, ffz spec_l7Need, fga spec_l7Needs, fgb strconv_Itoa, fgc strings_Count, fgd strings_Cut, fge strings_CutPrefix, fgf strings_HasPrefix, fgg strings_Index, fgh strings_Join, fgi strings_Split, fgj strings_Trim, fgk strings_TrimPrefix, fgl strings_explode, fgm strings_genSplit, fgn unicode_utf8_DecodeRuneInString, fgo unicode_utf8_RuneCountInString, fgp unicode_utf8_decodeRuneInStringSlow. -/
import Derived.Test.YteenbnljpddleaaGreatDoorRows
import Derived.Test.YteenbnljpddleaaGreatDoorKFnExactPlanOf
import Derived.WalkKit
import Derived.ProofKit
import Derived.OpenShut
import Derived.ShutString
import Derived.ChangeOld
import Derived.Below
import Derived.Carry
import Derived.SizedLaws
import Derived.Test.YteenbnljpddleaaGreatDoorTie
import Derived.Test.YteenbnljpddleaaGreatDoorCards
import Derived.LaidMore
import Derived.Lay
import Derived.SevenTiedAt
import Derived.Stop.Joined
import Derived.Stop.LaidErr
set_option linter.unusedSimpArgs false
set_option linter.unusedVariables false
namespace Go.Proofs.YteenbnljpddleaaGreatDoor.fnExactPlanOf
open Go.ChangeShapes Go.WideShapes Go.ChangeAt Go.RowKit
theorem own:ownKnob Tryz.prog.godebug=none:=by kernel_rfl
theorem plain:([4,9,22,23,24,66,67,69,72,136,138]:List Nat).all (Ev.plainAt Ev.Γ0 [4,9,22,23,24,66,67,69,72,136,138])=true:=by kernel_rfl
theorem laid:laidOutB Tryz.prog=true:=by kernel_rfl
theorem handed_shaped {H:Type}{enc:TypeId×Value→H}{a:Assume}{C:Checked}{os:Os}{f:FuncId}{fn:Func}{s:ChangeSpec}{conds:List PathCond}{apart fresh handsOn again:Bool}{X:World→Array Value→Prop}
  (hX:∀ (w w':World) (args:Array Value),w.heap=w'.heap→X w args→X w' args)
  (own:ownKnob C.prog.godebug=none) (started:os.Started) (noInit:C.prog.inits.idxOf? f=none) (hfn:C.prog.funcs[f]?=some fn)
  (witness:∃ (w:World) (tape:Tape) (i:Input),w.os=os∧(w.forCall tape i).Shaped C.prog∧i.vars=[]∧Input.okWide C.prog (w.forCall tape i) .any w.heap.size f i∧
   ((s.pre enc C.prog fn conds apart (w.forCall tape i).memory i.args∧X (w.forCall tape i).memory i.args)∧sizedMet enc C.prog fn (OpenSpec.ofChange s) apart (w.forCall tape i).memory i.args)∧a.holds C.prog (lone (Frame.enter C.prog f i.args .normal) [] (w.forCall tape i)))
  (contract:∀ (W:World) (base:Nat) (args:Array Value) (ds gs:List (DataW H)) (before:List MemPlace),W.ShapedOpen C.prog→
   (∀ (j:Nat) t v,fn.params[j]?=some t→args[j]?=some v→Value.okWide C.prog W .any base t v)→
   DataW.Whole enc C.prog fn.params.toList s.vars apart W args.toList ds gs before→
   conds.all (PathCond.test C.prog ⟨fn.params.toList,ds,s.plain.varTypes C.prog,gs⟩)=true→
   (DataW.weightsEach C.prog (fn.params.toList++s.plain.varTypes C.prog) (ds++gs)).all (·≤reachBytes)=true→X W args→
   a.holds C.prog (lone (Frame.enter C.prog f args .normal) [] W)→
   Calls C.prog f args W fun e W'=>∃ v,e=.returned v∧s.post enc C.prog fn apart fresh handsOn again W args v W'):
  ReturnsInHanded a C os f .any (fun w args=>(s.pre enc C.prog fn conds apart w args∧X w args)∧sizedMet enc C.prog fn (OpenSpec.ofChange s) apart w args) (s.post enc C.prog fn apart fresh handsOn again):=by
 refine returnsInHanded_of_calls own started noInit witness ?_
 intro w tape i _ hsh _ hok hpre hholds
 obtain⟨_,_,_,fn',hfn',_,_,_,_,hval⟩:=hok
 have e:fn'=fn:=Option.some.inj (hfn'.symm.trans hfn)
 subst e
 obtain⟨⟨⟨ds,gs,before,hw,hc⟩,hx⟩,hz⟩:=hpre
 have hw':=DataW.Whole.of_heap (w':=w.forCall tape i) (by rfl) hw
 refine(contract (w.forCall tape i) w.heap.size i.args ds gs before hsh hval hw' hc (hz.weights hw) (hX _ _ _ (by rfl) hx) hholds).mono fun e W' ⟨v,he,hp⟩=>?_
 subst he
 exact ChangeSpec.post_blind hp
set_option maxRecDepth 100000 in
theorem lifted (os:Os)(started:os.Started)(H:Type)(enc:TypeId×Value→H):
  ReturnsInHanded {} Tryz.checked os 3 .any (fun w args=>(Rows.fnExactPlanOfSpec.pre enc Tryz.prog Tryz.f3 Rows.fnExactPlanOfRow.domain false w args∧laidMetH Tryz.prog Rows.fnExactPlanOfRow.laid w)∧sizedMet enc Tryz.prog Tryz.f3 (OpenSpec.ofChange Rows.fnExactPlanOfSpec) false w args)
   (Rows.fnExactPlanOfSpec.post enc Tryz.prog Tryz.f3 false true false false):=by
 refine handed_shaped (C:=Tryz.checked) (X:=fun w _=>laidMetH Tryz.prog Rows.fnExactPlanOfRow.laid w) (fun _ _ _ hh h=>h.of_heap hh) own started (by kernel_rfl) Tryz.func3
  (ChangeSpec.witness_shaped (enc:=enc) (C:=Tryz.checked) (os:=os) (X:=fun w _=>laidMetH Tryz.prog Rows.fnExactPlanOfRow.laid w) false (World.laidAll Tryz.prog os Rows.fnExactPlanOfRow.laid) #[.slice none 0 0,.slice none 0 0,.slice none 0 0] 8 (World.laidAll_os _ _ _)
   (World.shaped_of_ZipB (by kernel_rfl) (by kernel_rfl)) (by kernel_rfl) (by kernel_rfl) (by kernel_rfl)
   (by rw[MakeChecks.laidMetH_plain _ _ _ (by kernel_rfl)];exact laidMet_laidAll _ (by kernel_rfl) (by kernel_rfl))) ?_
 intro W base args ds gs before hSh hval0 hW hcnd hsz0 hL _
 have hval:∀ (j:Nat) t v,Tryz.f3.params[j]?=some t→args[j]?=some v→Value.okWide Tryz.prog W .any base t v:=hval0
 have hW':=hW
 obtain⟨p,q,hA0,hV,rfl,hfz,hnd⟩:=hW
 have hA:DataW.TrodAll enc Tryz.prog W 0 (fun _=>true) true Tryz.f3.params.toList args.toList ds p:=hA0
 rw[Tryz.params3] at hA hval
 obtain⟨v0,vs0,d0,ds0,p0,q0,hargs,rfl,rfl,h0,r0⟩:=trodAll_cons hA
 obtain⟨v1,vs1,d1,ds1,p1,q1,rfl,rfl,rfl,h1,r1⟩:=trodAll_cons r0
 obtain⟨v2,vs2,d2,ds2,p2,q2,rfl,rfl,rfl,h2,r2⟩:=trodAll_cons r1
 obtain⟨rfl,rfl,rfl⟩:=trodAll_nil r2
 obtain rfl:args=#[v0,v1,v2]:=by cases args;simp_all
 obtain⟨rfl,rfl⟩:=trodVars_none hV
 have hS:∀ t∈([4,9,22,23,24,66,67,69,72,136,138]:List Nat),Ev.plainAt Ev.Γ0 [4,9,22,23,24,66,67,69,72,136,138] t=true:=List.all_eq_true.1 plain
 have hΓ:Ev.CtxOk Tryz.prog Ev.Γ0:=Ev.ctxOk_of rfl Ev.tyTab_ok
 obtain⟨n0,cs0,wt0,av0⟩:=Ev.open_arg hΓ hS (t:=22) (r:=Ev.ty22) (by decide) (by kernel_rfl) (hval 0 22 v0 rfl rfl) h0
 obtain⟨x0,e0,b0⟩:=Ev.WT_slice (e0:=Ev.MPack.enc) (b:=(Ev.MPack.Bd maxLen)) wt0 (by kernel_rfl:Ev.Γ0.ty 22=some Ev.ty22) rfl (by kernel_rfl:Ev.Γ0.ty 69=some Ev.ty69) (fun n r h=>Ev.MPack.of_wt _ _ h)
 subst e0
 obtain⟨n1,cs1,wt1,av1⟩:=Ev.open_arg hΓ hS (t:=23) (r:=Ev.ty23) (by decide) (by kernel_rfl) (hval 1 23 v1 rfl rfl) h1
 obtain⟨x1,e1,b1⟩:=Ev.WT_slice (e0:=Ev.MRule.enc) (b:=(Ev.MRule.Bd maxLen)) wt1 (by kernel_rfl:Ev.Γ0.ty 23=some Ev.ty23) rfl (by kernel_rfl:Ev.Γ0.ty 72=some Ev.ty72) (fun n r h=>Ev.MRule.of_wt _ _ h)
 subst e1
 obtain⟨n2,cs2,wt2,av2⟩:=Ev.open_arg hΓ hS (t:=24) (r:=Ev.ty24) (by decide) (by kernel_rfl) (hval 2 24 v2 rfl rfl) h2
 obtain⟨x2,e2,b2⟩:=Ev.WT_slice (e0:=Ev.eStr) (b:=(Ev.bdS maxLen)) wt2 (by kernel_rfl:Ev.Γ0.ty 24=some Ev.ty24) rfl (by kernel_rfl:Ev.Γ0.ty 9=some Ev.ty9) (fun n r h=>Ev.WT_str h (by kernel_rfl:Ev.Γ0.ty 9=some Ev.ty9) rfl)
 subst e2
 clear hA0 hval0 hsz0
 have hL2:laidMet Tryz.prog Rows.fnExactPlanOfRow.laid W:=by
  have h:=hL
  rw[MakeChecks.laidMetH_plain _ _ _ (by kernel_rfl)] at h
  exact h
 have hT:Lib.TabIs Tryz.prog W "internal/strconv.uint64pow10" .u64 Lib.pow10Tab:=Lib.tabIs_of_head (g:=3) (t:=263) (e:=173) (n:=20) (by kernel_rfl) (by kernel_rfl) (by kernel_rfl) (by kernel_rfl) (by kernel_rfl) (by kernel_rfl) (show laidMet Tryz.prog (("internal/strconv.uint64pow10",Lib.tabData .u64 Lib.pow10Tab)::Rows.fnExactPlanOfRow.laid.tail.tail.tail) W from(laidMet.tail (laidMet.tail hL2)))
 refine(Ev.law_out Ev.ok_fcg (Ev.c_fcg x0 x1 x2 b0 b1 b2) ⟨Ev.okTab_start (by kernel_rfl) hT,Ev.okMax_start (Ev.okT_shape _ hSh)⟩ (.cons av0 (.cons av1 (.cons av2 (.nil))))).mono fun e W' ⟨he,bel⟩=>?_
 subst he
 exact⟨_,rfl,_,_,_,[],_,[],hW',trodAll_mk1 (shut_bool (by kernel_rfl) _),trodAll_cons_mk (RowKit.Below.trod laid (by kernel_rfl) (by decide+kernel) h0 bel (fun x hx=>DataW.trod_lt _ _ _ _ h0.choose_spec x hx)) (trodAll_cons_mk (RowKit.Below.trod laid (by kernel_rfl) (by decide+kernel) h1 bel (fun x hx=>DataW.trod_lt _ _ _ _ h1.choose_spec x hx)) (trodAll_cons_mk (RowKit.Below.trod laid (by kernel_rfl) (by decide+kernel) h2 bel (fun x hx=>DataW.trod_lt _ _ _ _ h2.choose_spec x hx)) (trodAll_mk0))),rfl,bel.frame _,fun h=>by cases h⟩
theorem q_wf:Rows.fnExactPlanOfRow.wf (OpenSpec.ofChange Rows.fnExactPlanOfSpec)=true:=by kernel_rfl
theorem q_rowed:mapsRowed Tryz.prog=true:=by kernel_rfl
theorem q_place:(Rows.fnExactPlanOfRow.inPlace==Tryz.prog.inPlace 3)=true:=by kernel_rfl
theorem q_unf:(Rows.fnExactPlanOfRow.unfollowed==Tryz.prog.unfollowed 3)=true:=by kernel_rfl
theorem q_rec:(Rows.fnExactPlanOfRow.recurses==Tryz.prog.recurses 3)=true:=by kernel_rfl
theorem q_named:(Rows.fnExactPlanOfRow.named==Tryz.prog.varsNamed 3)=true:=by kernel_rfl
theorem q_heard:Tryz.prog.stopsHeard=true:=by kernel_rfl
theorem q_enter:Tryz.prog.mayEnter=true:=by kernel_rfl
theorem q_lifted:(Rows.fnExactPlanOfRow.lifted==Tryz.prog.liftsFinal)=true:=by kernel_rfl
theorem q_keys:(Rows.fnExactPlanOfRow.plainKeys==Tryz.prog.plainKeys)=true:=by kernel_rfl
theorem joined:joinedFacts Tryz.prog 3 Tryz.f3 Rows.fnExactPlanOfSpec Rows.fnExactPlanOfRow=true:=by
 simp only[joinedFacts,q_wf,laid,q_rowed,q_place,q_unf,q_rec,q_named,q_heard,q_enter,q_lifted,q_keys,Bool.true_and,Bool.and_true]
 kernel_rfl
theorem over:Rows.fnExactPlanOfRow.holds Tryz.pinned (OpenSpec.ofChange Rows.fnExactPlanOfSpec):=
 OpenClaim.holds_of_wide 3 Tryz.f3 rfl rfl rfl rfl rfl rfl rfl ⟨rfl,rfl,rfl,rfl,rfl⟩ rfl rfl rfl rfl rfl (by as_aux_lemma=>kernel_rfl) Tryz.func3 joined
  (of_decide_eq_true (by as_aux_lemma=>kernel_rfl)) (by unfold Func.isWrapper;first | (rw[if_pos (by decide+kernel)];kernel_rfl) | (rw[if_neg (by decide+kernel)];exact⟨rfl,rfl⟩))
  (fun os started H enc _=>lifted os started H enc)
theorem proved:Rows.FnExactPlanOfCardSaid:=
 Claim7.holds_tied_plain_at .later [] [.data,.data,.data,.data,.pinned] true (true,"d401dabc5c84ccbfcbe90fbef7f4e526fe130c4436438595c089c75dc269813e") false
  over (fun _ h=>by cases h) (by as_aux_lemma=>kernel_rfl) (fun _ h=>by cases h) fnExactPlanOf_row_tie rfl ⟨rfl,rfl⟩ (by as_aux_lemma=>kernel_rfl) rfl
  (fun f fn hf hfn=>by
   obtain rfl:f=3:=Option.some.inj ((show Tryz.prog.funcNamed "loop.example/g00464/laws.FnExactPlanOf"=some 3 by kernel_rfl).symm.trans hf) |>.symm
   obtain rfl:fn=Tryz.f3:=(Option.some.inj (Tryz.func3.symm.trans hfn)).symm
   exact⟨by kernel_rfl,fun j t ht=>by
    rw[Tryz.params3] at ht
    have hm:t∈[22,23,24]:=by simpa using Array.mem_of_getElem? ht
    have hall:([22,23,24].all fun u=>!Tryz.prog.wantsStandIn u)=true:=by kernel_rfl
    exact(show Tryz.prog.wantsStandIn t=false by simpa using List.all_eq_true.1 hall t hm)⟩)
  (by as_aux_lemma=>kernel_rfl)
#print axioms proved
end Go.Proofs.YteenbnljpddleaaGreatDoor.fnExactPlanOf
namespace Go.Proofs.YteenbnljpddleaaGreatDoor
theorem fnExactPlanOf_holds:Rows.FnExactPlanOfCardSaid:=fnExactPlanOf.proved
end Go.Proofs.YteenbnljpddleaaGreatDoor

/- The statement FnRingsCardSaid: for every input the law answers true, and each argument reads as it did. Conditions: none. -/
/- Functions: faa impl_DeepUsedBy, fab impl_DeepUses, fac impl_FindPack, fad impl_FindPack_1, fae impl_NameOk, faf impl_NumText, fag impl_Order, fah impl_PackOk, fai impl_PacksOk, faj impl_ParseNum, fak impl_ParseRange, fal impl_ParseVer, fam impl_PlainOk, fan impl_Ring, fao impl_Sorted, fap impl_UsedBy, faq impl_VerOk, fas impl_VerText, fat impl_below, fau impl_caret, fav impl_cmdOk, faw impl_cmpsOf, fax impl_deep, fay impl_graphOf, faz impl_graph_ahead, fba impl_graph_by, fbb impl_graph_canBeNext, fbc impl_graph_onOf, fbd impl_graph_order, fbe impl_graph_order_1, fbf impl_graph_ring, fbg impl_graph_way, fbh impl_inRange, fbi impl_isAscending, fbj impl_isFigure, fbk impl_isFigures, fbl impl_isPlain, fbm impl_isSmall, fbn impl_listOf, fbo impl_namesOk, fbp impl_needOk, fbq impl_needsOk, fbr impl_nextOf, fbs impl_partOf, fbt impl_preOk, fbu impl_wordCmps, fbv internal_bytealg_Cutover, fbw internal_bytealg_IndexRabinKarp_string, fbx internal_bytealg_hashStr_string, fby internal_stringslite_Cut, fbz internal_stringslite_CutPrefix, fca internal_stringslite_HasPrefix, fcb internal_stringslite_Index, fcc internal_stringslite_IndexByte, fcd laws_FnRings, fce laws_ascending, fcf laws_big, fcg laws_hasText, fch laws_sameTexts, fci slices_Clip_string, fcj slices_Clone_string, fck slices_Compact_string, fcl slices_Contains_string, fcm slices_IndexFunc_Pack, fcn slices_IndexFunc_string, fco slices_Index_string, fcp slices_Sort_string, fcq spec_DeepUsedBy, fcr spec_DeepUses, fcs spec_DrawDeepUses, fct spec_DrawFindPack, fcu spec_DrawOrder, fcv spec_DrawRing, fcw spec_NumText, fcx spec_Order, fcy spec_Ring, fcz spec_Sorted, fda spec_UsedBy, fdb spec_l11At, fdc spec_l11Back, fdd spec_l11Next, fde spec_l11Order, fdf spec_l11Packs, fdg spec_l11Reach, fdh spec_l11Ready, fdi spec_l11Ring, fdj spec_l11Rings, fdk spec_l11Way, fdl spec_l1Below, fdm spec_l1Byte, fdn spec_l1Has, fdo spec_l1List, fdp spec_l1New, fdq spec_l1Once, fdr spec_l1Str, fds spec_l1Text, fdt spec_l7Act, fdu spec_l7Any, fdv spec_l7Cmd, fdw spec_l7Copy, fdx spec_l7DrawNeeds, fdy spec_l7OneNeed, fdz spec_l7Pack, fea spec_l7Packs, feb spec_l7PacksAny, fec strconv_Itoa, fed strings_Count, fee strings_Cut, fef strings_CutPrefix, feg strings_Index, feh strings_Join, fei strings_Split, fej strings_Trim, fek strings_explode, fel strings_genSplit, fem unicode_utf8_DecodeRuneInString, fen unicode_utf8_RuneCountInString, feo unicode_utf8_decodeRuneInStringSlow. -/
import Derived.Test.YteofbfalngmmeaaGreatDoorRows
import Derived.Test.YteofbfalngmmeaaGreatDoorKall
import Derived.WalkKit
import Derived.ProofKit
import Derived.OpenShut
import Derived.ShutString
import Derived.ChangeOld
import Derived.Below
import Derived.Carry
import Derived.SizedLaws
import Derived.Test.YteofbfalngmmeaaGreatDoorTie
import Derived.Test.YteofbfalngmmeaaGreatDoorCards
import Derived.LaidMore
import Derived.Lay
import Derived.SevenTiedAt
import Derived.Stop.Joined
import Derived.Stop.LaidErr
set_option linter.unusedSimpArgs false
set_option linter.unusedVariables false
namespace Go.Proofs.YteofbfalngmmeaaGreatDoor.fnRings
open Go.ChangeShapes Go.WideShapes Go.ChangeAt Go.RowKit
theorem own:ownKnob Tryz.prog.godebug=none:=by kernel_rfl
theorem plain:([5,22]:List Nat).all (Ev.plainAt Ev.Γ0 [5,22])=true:=by kernel_rfl
theorem laid:laidOutB Tryz.prog=true:=by kernel_rfl
theorem handed_shaped {H:Type}{enc:TypeId×Value→H}{a:Assume}{C:Checked}{os:Os}{f:FuncId}{fn:Func}{s:ChangeSpec}{conds:List PathCond}{apart fresh handsOn again:Bool}{X:World→Array Value→Prop}
  (hX:∀ (w w':World) (args:Array Value),w.heap=w'.heap→X w args→X w' args)
  (own:ownKnob C.prog.godebug=none) (started:os.Started) (noInit:C.prog.inits.idxOf? f=none) (hfn:C.prog.funcs[f]?=some fn)
  (witness:∃ (w:World) (tape:Tape) (i:Input),w.os=os∧(w.forCall tape i).Shaped C.prog∧i.vars=[]∧Input.okWide C.prog (w.forCall tape i) .any w.heap.size f i∧
   ((s.pre enc C.prog fn conds apart (w.forCall tape i).memory i.args∧X (w.forCall tape i).memory i.args)∧sizedMet enc C.prog fn (OpenSpec.ofChange s) apart (w.forCall tape i).memory i.args)∧a.holds C.prog (lone (Frame.enter C.prog f i.args .normal) [] (w.forCall tape i)))
  (contract:∀ (W:World) (base:Nat) (args:Array Value) (ds gs:List (DataW H)) (before:List MemPlace),W.ShapedOpen C.prog→
   (∀ (j:Nat) t v,fn.params[j]?=some t→args[j]?=some v→Value.okWide C.prog W .any base t v)→
   DataW.Whole enc C.prog fn.params.toList s.vars apart W args.toList ds gs before→
   conds.all (PathCond.test C.prog ⟨fn.params.toList,ds,s.plain.varTypes C.prog,gs⟩)=true→
   (DataW.weightsEach C.prog (fn.params.toList++s.plain.varTypes C.prog) (ds++gs)).all (·≤reachBytes)=true→X W args→
   a.holds C.prog (lone (Frame.enter C.prog f args .normal) [] W)→
   Calls C.prog f args W fun e W'=>∃ v,e=.returned v∧s.post enc C.prog fn apart fresh handsOn again W args v W'):
  ReturnsInHanded a C os f .any (fun w args=>(s.pre enc C.prog fn conds apart w args∧X w args)∧sizedMet enc C.prog fn (OpenSpec.ofChange s) apart w args) (s.post enc C.prog fn apart fresh handsOn again):=by
 refine returnsInHanded_of_calls own started noInit witness ?_
 intro w tape i _ hsh _ hok hpre hholds
 obtain⟨_,_,_,fn',hfn',_,_,_,_,hval⟩:=hok
 have e:fn'=fn:=Option.some.inj (hfn'.symm.trans hfn)
 subst e
 obtain⟨⟨⟨ds,gs,before,hw,hc⟩,hx⟩,hz⟩:=hpre
 have hw':=DataW.Whole.of_heap (w':=w.forCall tape i) (by rfl) hw
 refine(contract (w.forCall tape i) w.heap.size i.args ds gs before hsh hval hw' hc (hz.weights hw) (hX _ _ _ (by rfl) hx) hholds).mono fun e W' ⟨v,he,hp⟩=>?_
 subst he
 exact ChangeSpec.post_blind hp
set_option maxRecDepth 100000 in
theorem lifted (os:Os)(started:os.Started)(H:Type)(enc:TypeId×Value→H):
  ReturnsInHanded {} Tryz.checked os 4 .any (fun w args=>(Rows.fnRingsSpec.pre enc Tryz.prog Tryz.f4 Rows.fnRingsRow.domain false w args∧laidMetH Tryz.prog Rows.fnRingsRow.laid w)∧sizedMet enc Tryz.prog Tryz.f4 (OpenSpec.ofChange Rows.fnRingsSpec) false w args)
   (Rows.fnRingsSpec.post enc Tryz.prog Tryz.f4 false true false false):=by
 refine handed_shaped (C:=Tryz.checked) (X:=fun w _=>laidMetH Tryz.prog Rows.fnRingsRow.laid w) (fun _ _ _ hh h=>h.of_heap hh) own started (by kernel_rfl) Tryz.func4
  (ChangeSpec.witness_shaped (enc:=enc) (C:=Tryz.checked) (os:=os) (X:=fun w _=>laidMetH Tryz.prog Rows.fnRingsRow.laid w) false (World.laidAll Tryz.prog os Rows.fnRingsRow.laid) #[.slice none 0 0] 8 (World.laidAll_os _ _ _)
   (World.shaped_of_ZipB (by kernel_rfl) (by kernel_rfl)) (by kernel_rfl) (by kernel_rfl) (by kernel_rfl)
   (by rw[MakeChecks.laidMetH_plain _ _ _ (by kernel_rfl)];exact laidMet_laidAll _ (by kernel_rfl) (by kernel_rfl))) ?_
 intro W base args ds gs before hSh hval0 hW hcnd hsz0 hL _
 have hval:∀ (j:Nat) t v,Tryz.f4.params[j]?=some t→args[j]?=some v→Value.okWide Tryz.prog W .any base t v:=hval0
 have hW':=hW
 obtain⟨p,q,hA0,hV,rfl,hfz,hnd⟩:=hW
 have hA:DataW.TrodAll enc Tryz.prog W 0 (fun _=>true) true Tryz.f4.params.toList args.toList ds p:=hA0
 rw[Tryz.params4] at hA hval
 obtain⟨v0,vs0,d0,ds0,p0,q0,hargs,rfl,rfl,h0,r0⟩:=trodAll_cons hA
 obtain⟨rfl,rfl,rfl⟩:=trodAll_nil r0
 obtain rfl:args=#[v0]:=by cases args;simp_all
 obtain⟨rfl,rfl⟩:=trodVars_none hV
 have hS:∀ t∈([5,22]:List Nat),Ev.plainAt Ev.Γ0 [5,22] t=true:=List.all_eq_true.1 plain
 have hΓ:Ev.CtxOk Tryz.prog Ev.Γ0:=Ev.ctxOk_of rfl Ev.tyTab_ok
 obtain⟨n0,cs0,wt0,av0⟩:=Ev.open_arg hΓ hS (t:=22) (r:=Ev.ty22) (by decide) (by kernel_rfl) (hval 0 22 v0 rfl rfl) h0
 obtain⟨x0,e0,b0⟩:=Ev.WT_bytes wt0 (by kernel_rfl:Ev.Γ0.ty 22=some Ev.ty22) rfl (by kernel_rfl:Ev.Γ0.ty 5=some Ev.ty5) rfl rfl
 subst e0
 clear hA0 hval0 hsz0
 have hL2:laidMet Tryz.prog Rows.fnRingsRow.laid W:=by
  have h:=hL
  rw[MakeChecks.laidMetH_plain _ _ _ (by kernel_rfl)] at h
  exact h
 have hT:Lib.TabIs Tryz.prog W "internal/strconv.uint64pow10" .u64 Lib.pow10Tab:=Lib.tabIs_of_head (g:=3) (t:=213) (e:=130) (n:=20) (by kernel_rfl) (by kernel_rfl) (by kernel_rfl) (by kernel_rfl) (by kernel_rfl) (by kernel_rfl) (show laidMet Tryz.prog (("internal/strconv.uint64pow10",Lib.tabData .u64 Lib.pow10Tab)::Rows.fnRingsRow.laid.tail.tail.tail) W from(laidMet.tail (laidMet.tail hL2)))
 refine(Ev.law_out Ev.ok_fcd (Ev.c_fcd x0 b0) ⟨Ev.okTab_start (by kernel_rfl) hT,Ev.okMax_start (Ev.okT_shape _ hSh)⟩ (.cons av0 (.nil))).mono fun e W' ⟨he,bel⟩=>?_
 subst he
 exact⟨_,rfl,_,_,_,[],_,[],hW',trodAll_mk1 (shut_bool (by kernel_rfl) _),trodAll_cons_mk (RowKit.Below.trod laid (by kernel_rfl) (by decide+kernel) h0 bel (fun x hx=>DataW.trod_lt _ _ _ _ h0.choose_spec x hx)) (trodAll_mk0),rfl,bel.frame _,fun h=>by cases h⟩
theorem q_wf:Rows.fnRingsRow.wf (OpenSpec.ofChange Rows.fnRingsSpec)=true:=by kernel_rfl
theorem q_rowed:mapsRowed Tryz.prog=true:=by kernel_rfl
theorem q_place:(Rows.fnRingsRow.inPlace==Tryz.prog.inPlace 4)=true:=by kernel_rfl
theorem q_unf:(Rows.fnRingsRow.unfollowed==Tryz.prog.unfollowed 4)=true:=by kernel_rfl
theorem q_rec:(Rows.fnRingsRow.recurses==Tryz.prog.recurses 4)=true:=by kernel_rfl
theorem q_named:(Rows.fnRingsRow.named==Tryz.prog.varsNamed 4)=true:=by kernel_rfl
theorem q_heard:Tryz.prog.stopsHeard=true:=by kernel_rfl
theorem q_enter:Tryz.prog.mayEnter=true:=by kernel_rfl
theorem q_lifted:(Rows.fnRingsRow.lifted==Tryz.prog.liftsFinal)=true:=by kernel_rfl
theorem q_keys:(Rows.fnRingsRow.plainKeys==Tryz.prog.plainKeys)=true:=by kernel_rfl
theorem joined:joinedFacts Tryz.prog 4 Tryz.f4 Rows.fnRingsSpec Rows.fnRingsRow=true:=by
 simp only[joinedFacts,q_wf,laid,q_rowed,q_place,q_unf,q_rec,q_named,q_heard,q_enter,q_lifted,q_keys,Bool.true_and,Bool.and_true]
 kernel_rfl
theorem over:Rows.fnRingsRow.holds Tryz.pinned (OpenSpec.ofChange Rows.fnRingsSpec):=
 OpenClaim.holds_of_wide 4 Tryz.f4 rfl rfl rfl rfl rfl rfl rfl ⟨rfl,rfl,rfl,rfl,rfl⟩ rfl rfl rfl rfl rfl (by as_aux_lemma=>kernel_rfl) Tryz.func4 joined
  (of_decide_eq_true (by as_aux_lemma=>kernel_rfl)) (by unfold Func.isWrapper;first | (rw[if_pos (by decide+kernel)];kernel_rfl) | (rw[if_neg (by decide+kernel)];exact⟨rfl,rfl⟩))
  (fun os started H enc _=>lifted os started H enc)
theorem proved:Rows.FnRingsCardSaid:=
 Claim7.holds_tied_plain_at .later [] [.data,.data,.data,.data,.pinned] true (true,"9174352e1956ec1ce17e66e282bc05be9524a005e381e7187aa945e570159629") false
  over (fun _ h=>by cases h) (by as_aux_lemma=>kernel_rfl) (fun _ h=>by cases h) fnRings_row_tie rfl ⟨rfl,rfl⟩ (by as_aux_lemma=>kernel_rfl) rfl
  (fun f fn hf hfn=>by
   obtain rfl:f=4:=Option.some.inj ((show Tryz.prog.funcNamed "loop.example/g00464/laws.FnRings"=some 4 by kernel_rfl).symm.trans hf) |>.symm
   obtain rfl:fn=Tryz.f4:=(Option.some.inj (Tryz.func4.symm.trans hfn)).symm
   exact⟨by kernel_rfl,fun j t ht=>by
    rw[Tryz.params4] at ht
    have hm:t∈[22]:=by simpa using Array.mem_of_getElem? ht
    have hall:([22].all fun u=>!Tryz.prog.wantsStandIn u)=true:=by kernel_rfl
    exact(show Tryz.prog.wantsStandIn t=false by simpa using List.all_eq_true.1 hall t hm)⟩)
  (by as_aux_lemma=>kernel_rfl)
#print axioms proved
end Go.Proofs.YteofbfalngmmeaaGreatDoor.fnRings
namespace Go.Proofs.YteofbfalngmmeaaGreatDoor
theorem fnRings_holds:Rows.FnRingsCardSaid:=fnRings.proved
end Go.Proofs.YteofbfalngmmeaaGreatDoor

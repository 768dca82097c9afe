/- The statement FnPacksBentCardSaid: for every input the law answers true, and each argument reads as it did. Conditions: none. -/
/- Functions: faa impl_FindPack, fab impl_FindPack_1, fac impl_NameOk, fad impl_NumText, fae impl_PackOk, faf impl_PacksOk, fag impl_ParseNum, fah impl_ParseRange, fai impl_ParseVer, faj impl_PlainOk, fak impl_VerOk, fal impl_VerText, fam impl_Wanted, fan impl_below, fao impl_caret, fap impl_cmdOk, faq impl_cmpsOf, far impl_inRange, fas impl_isAscending, fat impl_isFigure, fau impl_isFigures, fav impl_isPlain, faw impl_isSmall, fax impl_listOf, fay impl_namesOk, faz impl_needOk, fba impl_needsOk, fbb impl_nextOf, fbc impl_partOf, fbd impl_preOk, fbe impl_wordCmps, fbf internal_bytealg_Cutover, fbg internal_bytealg_IndexRabinKarp_string, fbh internal_bytealg_hashStr_string, fbi internal_stringslite_Cut, fbj internal_stringslite_CutPrefix, fbk internal_stringslite_HasPrefix, fbl internal_stringslite_Index, fbm internal_stringslite_IndexByte, fbn laws_FnPacksBent, fbo laws_big, fbp laws_sameNeeds, fbq slices_IndexFunc_Pack, fbr spec_DrawFindPack, fbs spec_DrawPackOk, fbt spec_DrawPacksOk, fbu spec_DrawWanted, fbv spec_FindPack, fbw spec_NameOk, fbx spec_NumText, fby spec_PackOk, fbz spec_PacksOk, fca spec_ParseNum, fcb spec_ParseRange, fcc spec_ParseVer, fcd spec_PlainOk, fce spec_Split, fcf spec_VerOk, fcg spec_Wanted, fch spec_l1Below, fci spec_l1Byte, fcj spec_l1Digit, fck spec_l1In, fcl spec_l1List, fcm spec_l1New, fcn spec_l1Once, fco spec_l1Small, fcp spec_l1Str, fcq spec_l1Text, fcr spec_l3Digits, fcs spec_l3Part, fct spec_l4Below, fcu spec_l4Caret, fcv spec_l4From, fcw spec_l4Good, fcx spec_l4List, fcy spec_l4Make, fcz spec_l4Next, fda spec_l4Read, fdb spec_l4Sides, fdc spec_l4Tilde, fdd spec_l4Trim, fde spec_l4Word, fdf spec_l7Act, fdg spec_l7Any, fdh spec_l7Ascending, fdi spec_l7Cmd, fdj spec_l7Cmds, fdk spec_l7Copy, fdl spec_l7DrawNeeds, fdm spec_l7Names, fdn spec_l7Need, fdo spec_l7Needs, fdp spec_l7OneNeed, fdq spec_l7Pack, fdr spec_l7Packs, fds spec_l7PacksAny, fdt strconv_Itoa, fdu strings_Count, fdv strings_Cut, fdw strings_CutPrefix, fdx strings_Index, fdy strings_Join, fdz strings_Split, fea strings_Trim, feb strings_explode, fec strings_genSplit, fed unicode_utf8_DecodeRuneInString, fee unicode_utf8_RuneCountInString, fef unicode_utf8_decodeRuneInStringSlow. -/
import Derived.Test.YteofbfalngmmeaaGreatDoorRows
import Derived.Test.YteofbfalngmmeaaGreatDoorKall
import Derived.WalkKit
import Derived.ProofKit
import Derived.OpenShut
import Derived.ShutString
import Derived.ChangeOld
import Derived.Below
import Derived.Carry
import Derived.SizedLaws
import Derived.Test.YteofbfalngmmeaaGreatDoorTie
import Derived.Test.YteofbfalngmmeaaGreatDoorCards
import Derived.LaidMore
import Derived.Lay
import Derived.SevenTiedAt
import Derived.Stop.Joined
import Derived.Stop.LaidErr
set_option linter.unusedSimpArgs false
set_option linter.unusedVariables false
namespace Go.Proofs.YteofbfalngmmeaaGreatDoor.fnPacksBent
open Go.ChangeShapes Go.WideShapes Go.ChangeAt Go.RowKit
theorem own:ownKnob Tryz.prog.godebug=none:=by kernel_rfl
theorem plain:([5,22]:List Nat).all (Ev.plainAt Ev.Γ0 [5,22])=true:=by kernel_rfl
theorem laid:laidOutB Tryz.prog=true:=by kernel_rfl
theorem handed_shaped {H:Type}{enc:TypeId×Value→H}{a:Assume}{C:Checked}{os:Os}{f:FuncId}{fn:Func}{s:ChangeSpec}{conds:List PathCond}{apart fresh handsOn again:Bool}{X:World→Array Value→Prop}
  (hX:∀ (w w':World) (args:Array Value),w.heap=w'.heap→X w args→X w' args)
  (own:ownKnob C.prog.godebug=none) (started:os.Started) (noInit:C.prog.inits.idxOf? f=none) (hfn:C.prog.funcs[f]?=some fn)
  (witness:∃ (w:World) (tape:Tape) (i:Input),w.os=os∧(w.forCall tape i).Shaped C.prog∧i.vars=[]∧Input.okWide C.prog (w.forCall tape i) .any w.heap.size f i∧
   ((s.pre enc C.prog fn conds apart (w.forCall tape i).memory i.args∧X (w.forCall tape i).memory i.args)∧sizedMet enc C.prog fn (OpenSpec.ofChange s) apart (w.forCall tape i).memory i.args)∧a.holds C.prog (lone (Frame.enter C.prog f i.args .normal) [] (w.forCall tape i)))
  (contract:∀ (W:World) (base:Nat) (args:Array Value) (ds gs:List (DataW H)) (before:List MemPlace),W.ShapedOpen C.prog→
   (∀ (j:Nat) t v,fn.params[j]?=some t→args[j]?=some v→Value.okWide C.prog W .any base t v)→
   DataW.Whole enc C.prog fn.params.toList s.vars apart W args.toList ds gs before→
   conds.all (PathCond.test C.prog ⟨fn.params.toList,ds,s.plain.varTypes C.prog,gs⟩)=true→
   (DataW.weightsEach C.prog (fn.params.toList++s.plain.varTypes C.prog) (ds++gs)).all (·≤reachBytes)=true→X W args→
   a.holds C.prog (lone (Frame.enter C.prog f args .normal) [] W)→
   Calls C.prog f args W fun e W'=>∃ v,e=.returned v∧s.post enc C.prog fn apart fresh handsOn again W args v W'):
  ReturnsInHanded a C os f .any (fun w args=>(s.pre enc C.prog fn conds apart w args∧X w args)∧sizedMet enc C.prog fn (OpenSpec.ofChange s) apart w args) (s.post enc C.prog fn apart fresh handsOn again):=by
 refine returnsInHanded_of_calls own started noInit witness ?_
 intro w tape i _ hsh _ hok hpre hholds
 obtain⟨_,_,_,fn',hfn',_,_,_,_,hval⟩:=hok
 have e:fn'=fn:=Option.some.inj (hfn'.symm.trans hfn)
 subst e
 obtain⟨⟨⟨ds,gs,before,hw,hc⟩,hx⟩,hz⟩:=hpre
 have hw':=DataW.Whole.of_heap (w':=w.forCall tape i) (by rfl) hw
 refine(contract (w.forCall tape i) w.heap.size i.args ds gs before hsh hval hw' hc (hz.weights hw) (hX _ _ _ (by rfl) hx) hholds).mono fun e W' ⟨v,he,hp⟩=>?_
 subst he
 exact ChangeSpec.post_blind hp
set_option maxRecDepth 100000 in
theorem lifted (os:Os)(started:os.Started)(H:Type)(enc:TypeId×Value→H):
  ReturnsInHanded {} Tryz.checked os 3 .any (fun w args=>(Rows.fnPacksBentSpec.pre enc Tryz.prog Tryz.f3 Rows.fnPacksBentRow.domain false w args∧laidMetH Tryz.prog Rows.fnPacksBentRow.laid w)∧sizedMet enc Tryz.prog Tryz.f3 (OpenSpec.ofChange Rows.fnPacksBentSpec) false w args)
   (Rows.fnPacksBentSpec.post enc Tryz.prog Tryz.f3 false true false false):=by
 refine handed_shaped (C:=Tryz.checked) (X:=fun w _=>laidMetH Tryz.prog Rows.fnPacksBentRow.laid w) (fun _ _ _ hh h=>h.of_heap hh) own started (by kernel_rfl) Tryz.func3
  (ChangeSpec.witness_shaped (enc:=enc) (C:=Tryz.checked) (os:=os) (X:=fun w _=>laidMetH Tryz.prog Rows.fnPacksBentRow.laid w) false (World.laidAll Tryz.prog os Rows.fnPacksBentRow.laid) #[.slice none 0 0] 8 (World.laidAll_os _ _ _)
   (World.shaped_of_ZipB (by kernel_rfl) (by kernel_rfl)) (by kernel_rfl) (by kernel_rfl) (by kernel_rfl)
   (by rw[MakeChecks.laidMetH_plain _ _ _ (by kernel_rfl)];exact laidMet_laidAll _ (by kernel_rfl) (by kernel_rfl))) ?_
 intro W base args ds gs before hSh hval0 hW hcnd hsz0 hL _
 have hval:∀ (j:Nat) t v,Tryz.f3.params[j]?=some t→args[j]?=some v→Value.okWide Tryz.prog W .any base t v:=hval0
 have hW':=hW
 obtain⟨p,q,hA0,hV,rfl,hfz,hnd⟩:=hW
 have hA:DataW.TrodAll enc Tryz.prog W 0 (fun _=>true) true Tryz.f3.params.toList args.toList ds p:=hA0
 rw[Tryz.params3] at hA hval
 obtain⟨v0,vs0,d0,ds0,p0,q0,hargs,rfl,rfl,h0,r0⟩:=trodAll_cons hA
 obtain⟨rfl,rfl,rfl⟩:=trodAll_nil r0
 obtain rfl:args=#[v0]:=by cases args;simp_all
 obtain⟨rfl,rfl⟩:=trodVars_none hV
 have hS:∀ t∈([5,22]:List Nat),Ev.plainAt Ev.Γ0 [5,22] t=true:=List.all_eq_true.1 plain
 have hΓ:Ev.CtxOk Tryz.prog Ev.Γ0:=Ev.ctxOk_of rfl Ev.tyTab_ok
 obtain⟨n0,cs0,wt0,av0⟩:=Ev.open_arg hΓ hS (t:=22) (r:=Ev.ty22) (by decide) (by kernel_rfl) (hval 0 22 v0 rfl rfl) h0
 obtain⟨x0,e0,b0⟩:=Ev.WT_bytes wt0 (by kernel_rfl:Ev.Γ0.ty 22=some Ev.ty22) rfl (by kernel_rfl:Ev.Γ0.ty 5=some Ev.ty5) rfl rfl
 subst e0
 clear hA0 hval0 hsz0
 have hL2:laidMet Tryz.prog Rows.fnPacksBentRow.laid W:=by
  have h:=hL
  rw[MakeChecks.laidMetH_plain _ _ _ (by kernel_rfl)] at h
  exact h
 have hT:Lib.TabIs Tryz.prog W "internal/strconv.uint64pow10" .u64 Lib.pow10Tab:=Lib.tabIs_of_head (g:=3) (t:=213) (e:=130) (n:=20) (by kernel_rfl) (by kernel_rfl) (by kernel_rfl) (by kernel_rfl) (by kernel_rfl) (by kernel_rfl) (show laidMet Tryz.prog (("internal/strconv.uint64pow10",Lib.tabData .u64 Lib.pow10Tab)::Rows.fnPacksBentRow.laid.tail.tail.tail) W from(laidMet.tail (laidMet.tail hL2)))
 refine(Ev.law_out Ev.ok_fbn (Ev.c_fbn x0 b0) ⟨Ev.okTab_start (by kernel_rfl) hT,Ev.okMax_start (Ev.okT_shape _ hSh)⟩ (.cons av0 (.nil))).mono fun e W' ⟨he,bel⟩=>?_
 subst he
 exact⟨_,rfl,_,_,_,[],_,[],hW',trodAll_mk1 (shut_bool (by kernel_rfl) _),trodAll_cons_mk (RowKit.Below.trod laid (by kernel_rfl) (by decide+kernel) h0 bel (fun x hx=>DataW.trod_lt _ _ _ _ h0.choose_spec x hx)) (trodAll_mk0),rfl,bel.frame _,fun h=>by cases h⟩
theorem q_wf:Rows.fnPacksBentRow.wf (OpenSpec.ofChange Rows.fnPacksBentSpec)=true:=by kernel_rfl
theorem q_rowed:mapsRowed Tryz.prog=true:=by kernel_rfl
theorem q_place:(Rows.fnPacksBentRow.inPlace==Tryz.prog.inPlace 3)=true:=by kernel_rfl
theorem q_unf:(Rows.fnPacksBentRow.unfollowed==Tryz.prog.unfollowed 3)=true:=by kernel_rfl
theorem q_rec:(Rows.fnPacksBentRow.recurses==Tryz.prog.recurses 3)=true:=by kernel_rfl
theorem q_named:(Rows.fnPacksBentRow.named==Tryz.prog.varsNamed 3)=true:=by kernel_rfl
theorem q_heard:Tryz.prog.stopsHeard=true:=by kernel_rfl
theorem q_enter:Tryz.prog.mayEnter=true:=by kernel_rfl
theorem q_lifted:(Rows.fnPacksBentRow.lifted==Tryz.prog.liftsFinal)=true:=by kernel_rfl
theorem q_keys:(Rows.fnPacksBentRow.plainKeys==Tryz.prog.plainKeys)=true:=by kernel_rfl
theorem joined:joinedFacts Tryz.prog 3 Tryz.f3 Rows.fnPacksBentSpec Rows.fnPacksBentRow=true:=by
 simp only[joinedFacts,q_wf,laid,q_rowed,q_place,q_unf,q_rec,q_named,q_heard,q_enter,q_lifted,q_keys,Bool.true_and,Bool.and_true]
 kernel_rfl
theorem over:Rows.fnPacksBentRow.holds Tryz.pinned (OpenSpec.ofChange Rows.fnPacksBentSpec):=
 OpenClaim.holds_of_wide 3 Tryz.f3 rfl rfl rfl rfl rfl rfl rfl ⟨rfl,rfl,rfl,rfl,rfl⟩ rfl rfl rfl rfl rfl (by as_aux_lemma=>kernel_rfl) Tryz.func3 joined
  (of_decide_eq_true (by as_aux_lemma=>kernel_rfl)) (by unfold Func.isWrapper;first | (rw[if_pos (by decide+kernel)];kernel_rfl) | (rw[if_neg (by decide+kernel)];exact⟨rfl,rfl⟩))
  (fun os started H enc _=>lifted os started H enc)
theorem proved:Rows.FnPacksBentCardSaid:=
 Claim7.holds_tied_plain_at .later [] [.data,.data,.data,.data,.pinned] true (true,"9174352e1956ec1ce17e66e282bc05be9524a005e381e7187aa945e570159629") false
  over (fun _ h=>by cases h) (by as_aux_lemma=>kernel_rfl) (fun _ h=>by cases h) fnPacksBent_row_tie rfl ⟨rfl,rfl⟩ (by as_aux_lemma=>kernel_rfl) rfl
  (fun f fn hf hfn=>by
   obtain rfl:f=3:=Option.some.inj ((show Tryz.prog.funcNamed "loop.example/g00464/laws.FnPacksBent"=some 3 by kernel_rfl).symm.trans hf) |>.symm
   obtain rfl:fn=Tryz.f3:=(Option.some.inj (Tryz.func3.symm.trans hfn)).symm
   exact⟨by kernel_rfl,fun j t ht=>by
    rw[Tryz.params3] at ht
    have hm:t∈[22]:=by simpa using Array.mem_of_getElem? ht
    have hall:([22].all fun u=>!Tryz.prog.wantsStandIn u)=true:=by kernel_rfl
    exact(show Tryz.prog.wantsStandIn t=false by simpa using List.all_eq_true.1 hall t hm)⟩)
  (by as_aux_lemma=>kernel_rfl)
#print axioms proved
end Go.Proofs.YteofbfalngmmeaaGreatDoor.fnPacksBent
namespace Go.Proofs.YteofbfalngmmeaaGreatDoor
theorem fnPacksBent_holds:Rows.FnPacksBentCardSaid:=fnPacksBent.proved
end Go.Proofs.YteofbfalngmmeaaGreatDoor

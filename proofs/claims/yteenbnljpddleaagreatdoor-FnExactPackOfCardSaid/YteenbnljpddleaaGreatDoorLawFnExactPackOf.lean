/- The statement FnExactPackOfCardSaid: for every input the law answers true, and each argument reads as it did. Conditions: none. -/
/- Functions: faa impl_NameOk, fab impl_NumText, fac impl_PackOf, fad impl_PackOk, fae impl_Pack_field, faf impl_ParseNum, fag impl_ParseRange, fah impl_ParseVer, fai impl_PlainOk, faj impl_ValOk, fak impl_Val_isMap, fal impl_Val_measure, fam impl_Val_plainOk, fan impl_VerOk, fao impl_VerText, fap impl_below, faq impl_caret, far impl_cmdOk, fas impl_cmdsFrom, fat impl_cmpsOf, fau impl_inRange, fav impl_isAscending, faw impl_isFigure, fax impl_isFigures, fay impl_isNoVText, faz impl_isPlain, fba impl_isSmall, fbb impl_isVByte, fbc impl_listOf, fbd impl_namesOk, fbe impl_needOk, fbf impl_needsFrom, fbg impl_needsOk, fbh impl_nextOf, fbi impl_partOf, fbj impl_preOk, fbk impl_textsOf, fbl impl_vTextOk, fbm impl_wordCmps, fbn internal_bytealg_Cutover, fbo internal_bytealg_IndexRabinKarp_string, fbp internal_bytealg_hashStr_string, fbq internal_stringslite_Cut, fbr internal_stringslite_CutPrefix, fbs internal_stringslite_HasPrefix, fbt internal_stringslite_Index, fbu internal_stringslite_IndexByte, fbv laws_FnExactPackOf, fbw laws_eqCmd, fbx laws_eqCmdS, fby laws_eqNeed, fbz laws_eqNeedS, fca laws_eqPack, fcb laws_eqStringS, fcc laws_eqVal, fcd laws_eqValS, fce laws_heldCmdS, fcf laws_heldNeedS, fcg laws_heldPack, fch laws_heldStringS, fci laws_markCmdS, fcj laws_markNeedS, fck laws_markPack, fcl laws_markStringS, fcm laws_markText, fcn laws_markVal, fco laws_markValS, fcp laws_szStringS, fcq laws_szVal, fcr laws_szValS, fcs laws_toStringS, fct laws_toVal, fcu laws_toValS, fcv slices_ContainsFunc_string, fcw slices_IndexFunc_string, fcx spec_NameOk, fcy spec_PackOf, fcz spec_PackOk, fda spec_ParseNum, fdb spec_ParseRange, fdc spec_ParseVer, fdd spec_PlainOk, fde spec_Split, fdf spec_ValOk, fdg spec_VerOk, fdh spec_l1Digit, fdi spec_l1In, fdj spec_l1Small, fdk spec_l2Count, fdl spec_l2Here, fdm spec_l2Text, fdn spec_l3Digits, fdo spec_l3Part, fdp spec_l4Below, fdq spec_l4Caret, fdr spec_l4From, fds spec_l4Good, fdt spec_l4List, fdu spec_l4Make, fdv spec_l4Next, fdw spec_l4Read, fdx spec_l4Sides, fdy spec_l4Tilde, fdz spec_l4Trim, fea spec_l4Word, feb spec_l7Ascending, fec spec_l7Cmds, fed spec_l7Names, fee spec_l7Need, fef spec_l7Needs, feg spec_l7Put, feh spec_l7Texts, fei strconv_Itoa, fej strings_Count, fek strings_Cut, fel strings_CutPrefix, fem strings_Index, fen strings_Join, feo strings_Split, fep strings_Trim, feq strings_explode, fer strings_genSplit, fes unicode_utf8_DecodeRuneInString, fet unicode_utf8_RuneCountInString, feu unicode_utf8_decodeRuneInStringSlow. -/
import Derived.Test.YteenbnljpddleaaGreatDoorRows
import Derived.Test.YteenbnljpddleaaGreatDoorKFnExactPackOf
import Derived.WalkKit
import Derived.ProofKit
import Derived.OpenShut
import Derived.ShutString
import Derived.ChangeOld
import Derived.Below
import Derived.Carry
import Derived.SizedLaws
import Derived.Test.YteenbnljpddleaaGreatDoorTie
import Derived.Test.YteenbnljpddleaaGreatDoorCards
import Derived.LaidMore
import Derived.Lay
import Derived.SevenTiedAt
import Derived.Stop.Joined
import Derived.Stop.LaidErr
set_option linter.unusedSimpArgs false
set_option linter.unusedVariables false
namespace Go.Proofs.YteenbnljpddleaaGreatDoor.fnExactPackOf
open Go.ChangeShapes Go.WideShapes Go.ChangeAt Go.RowKit
theorem own:ownKnob Tryz.prog.godebug=none:=by kernel_rfl
theorem plain:([3,9,24,46,48]:List Nat).all (Ev.plainAt Ev.Γ0 [3,9,24,46,48])=true:=by kernel_rfl
theorem laid:laidOutB Tryz.prog=true:=by kernel_rfl
theorem handed_shaped {H:Type}{enc:TypeId×Value→H}{a:Assume}{C:Checked}{os:Os}{f:FuncId}{fn:Func}{s:ChangeSpec}{conds:List PathCond}{apart fresh handsOn again:Bool}{X:World→Array Value→Prop}
  (hX:∀ (w w':World) (args:Array Value),w.heap=w'.heap→X w args→X w' args)
  (own:ownKnob C.prog.godebug=none) (started:os.Started) (noInit:C.prog.inits.idxOf? f=none) (hfn:C.prog.funcs[f]?=some fn)
  (witness:∃ (w:World) (tape:Tape) (i:Input),w.os=os∧(w.forCall tape i).Shaped C.prog∧i.vars=[]∧Input.okWide C.prog (w.forCall tape i) .any w.heap.size f i∧
   ((s.pre enc C.prog fn conds apart (w.forCall tape i).memory i.args∧X (w.forCall tape i).memory i.args)∧sizedMet enc C.prog fn (OpenSpec.ofChange s) apart (w.forCall tape i).memory i.args)∧a.holds C.prog (lone (Frame.enter C.prog f i.args .normal) [] (w.forCall tape i)))
  (contract:∀ (W:World) (base:Nat) (args:Array Value) (ds gs:List (DataW H)) (before:List MemPlace),W.ShapedOpen C.prog→
   (∀ (j:Nat) t v,fn.params[j]?=some t→args[j]?=some v→Value.okWide C.prog W .any base t v)→
   DataW.Whole enc C.prog fn.params.toList s.vars apart W args.toList ds gs before→
   conds.all (PathCond.test C.prog ⟨fn.params.toList,ds,s.plain.varTypes C.prog,gs⟩)=true→
   (DataW.weightsEach C.prog (fn.params.toList++s.plain.varTypes C.prog) (ds++gs)).all (·≤reachBytes)=true→X W args→
   a.holds C.prog (lone (Frame.enter C.prog f args .normal) [] W)→
   Calls C.prog f args W fun e W'=>∃ v,e=.returned v∧s.post enc C.prog fn apart fresh handsOn again W args v W'):
  ReturnsInHanded a C os f .any (fun w args=>(s.pre enc C.prog fn conds apart w args∧X w args)∧sizedMet enc C.prog fn (OpenSpec.ofChange s) apart w args) (s.post enc C.prog fn apart fresh handsOn again):=by
 refine returnsInHanded_of_calls own started noInit witness ?_
 intro w tape i _ hsh _ hok hpre hholds
 obtain⟨_,_,_,fn',hfn',_,_,_,_,hval⟩:=hok
 have e:fn'=fn:=Option.some.inj (hfn'.symm.trans hfn)
 subst e
 obtain⟨⟨⟨ds,gs,before,hw,hc⟩,hx⟩,hz⟩:=hpre
 have hw':=DataW.Whole.of_heap (w':=w.forCall tape i) (by rfl) hw
 refine(contract (w.forCall tape i) w.heap.size i.args ds gs before hsh hval hw' hc (hz.weights hw) (hX _ _ _ (by rfl) hx) hholds).mono fun e W' ⟨v,he,hp⟩=>?_
 subst he
 exact ChangeSpec.post_blind hp
set_option maxRecDepth 100000 in
theorem lifted (os:Os)(started:os.Started)(H:Type)(enc:TypeId×Value→H):
  ReturnsInHanded {} Tryz.checked os 4 .any (fun w args=>(Rows.fnExactPackOfSpec.pre enc Tryz.prog Tryz.f4 Rows.fnExactPackOfRow.domain false w args∧laidMetH Tryz.prog Rows.fnExactPackOfRow.laid w)∧sizedMet enc Tryz.prog Tryz.f4 (OpenSpec.ofChange Rows.fnExactPackOfSpec) false w args)
   (Rows.fnExactPackOfSpec.post enc Tryz.prog Tryz.f4 false true false false):=by
 refine handed_shaped (C:=Tryz.checked) (X:=fun w _=>laidMetH Tryz.prog Rows.fnExactPackOfRow.laid w) (fun _ _ _ hh h=>h.of_heap hh) own started (by kernel_rfl) Tryz.func4
  (ChangeSpec.witness_shaped (enc:=enc) (C:=Tryz.checked) (os:=os) (X:=fun w _=>laidMetH Tryz.prog Rows.fnExactPackOfRow.laid w) false (World.laidAll Tryz.prog os Rows.fnExactPackOfRow.laid) #[.agg #[.int .i64 0,.int .i64 0,.string ⟨#[]⟩,.slice none 0 0,.slice none 0 0]] 8 (World.laidAll_os _ _ _)
   (World.shaped_of_ZipB (by kernel_rfl) (by kernel_rfl)) (by kernel_rfl) (by kernel_rfl) (by kernel_rfl)
   (by rw[MakeChecks.laidMetH_plain _ _ _ (by kernel_rfl)];exact laidMet_laidAll _ (by kernel_rfl) (by kernel_rfl))) ?_
 intro W base args ds gs before hSh hval0 hW hcnd hsz0 hL _
 have hval:∀ (j:Nat) t v,Tryz.f4.params[j]?=some t→args[j]?=some v→Value.okWide Tryz.prog W .any base t v:=hval0
 have hW':=hW
 obtain⟨p,q,hA0,hV,rfl,hfz,hnd⟩:=hW
 have hA:DataW.TrodAll enc Tryz.prog W 0 (fun _=>true) true Tryz.f4.params.toList args.toList ds p:=hA0
 rw[Tryz.params4] at hA hval
 obtain⟨v0,vs0,d0,ds0,p0,q0,hargs,rfl,rfl,h0,r0⟩:=trodAll_cons hA
 obtain⟨rfl,rfl,rfl⟩:=trodAll_nil r0
 obtain rfl:args=#[v0]:=by cases args;simp_all
 obtain⟨rfl,rfl⟩:=trodVars_none hV
 have hS:∀ t∈([3,9,24,46,48]:List Nat),Ev.plainAt Ev.Γ0 [3,9,24,46,48] t=true:=List.all_eq_true.1 plain
 have hΓ:Ev.CtxOk Tryz.prog Ev.Γ0:=Ev.ctxOk_of rfl Ev.tyTab_ok
 obtain⟨n0,cs0,wt0,av0⟩:=Ev.open_arg hΓ hS (t:=48) (r:=Ev.ty48) (by decide) (by kernel_rfl) (hval 0 48 v0 rfl rfl) h0
 obtain⟨x0,e0,b0⟩:=Ev.MVal.of_wt _ _ wt0
 subst e0
 rw[Ev.enc_V] at av0
 clear hA0 hval0 hsz0
 have hL2:laidMet Tryz.prog Rows.fnExactPackOfRow.laid W:=by
  have h:=hL
  rw[MakeChecks.laidMetH_plain _ _ _ (by kernel_rfl)] at h
  exact h
 have hT:Lib.TabIs Tryz.prog W "internal/strconv.uint64pow10" .u64 Lib.pow10Tab:=Lib.tabIs_of_head (g:=3) (t:=263) (e:=173) (n:=20) (by kernel_rfl) (by kernel_rfl) (by kernel_rfl) (by kernel_rfl) (by kernel_rfl) (by kernel_rfl) (show laidMet Tryz.prog (("internal/strconv.uint64pow10",Lib.tabData .u64 Lib.pow10Tab)::Rows.fnExactPackOfRow.laid.tail.tail.tail) W from(laidMet.tail (laidMet.tail hL2)))
 refine(Ev.law_out Ev.ok_fbv (Ev.c_fbv x0 b0) ⟨Ev.okTab_start (by kernel_rfl) hT,Ev.okMax_start (Ev.okT_shape _ hSh)⟩ (.cons av0 (.nil))).mono fun e W' ⟨he,bel⟩=>?_
 subst he
 exact⟨_,rfl,_,_,_,[],_,[],hW',trodAll_mk1 (shut_bool (by kernel_rfl) _),trodAll_cons_mk (RowKit.Below.trod laid (by kernel_rfl) (by decide+kernel) h0 bel (fun x hx=>DataW.trod_lt _ _ _ _ h0.choose_spec x hx)) (trodAll_mk0),rfl,bel.frame _,fun h=>by cases h⟩
theorem q_wf:Rows.fnExactPackOfRow.wf (OpenSpec.ofChange Rows.fnExactPackOfSpec)=true:=by kernel_rfl
theorem q_rowed:mapsRowed Tryz.prog=true:=by kernel_rfl
theorem q_place:(Rows.fnExactPackOfRow.inPlace==Tryz.prog.inPlace 4)=true:=by kernel_rfl
theorem q_unf:(Rows.fnExactPackOfRow.unfollowed==Tryz.prog.unfollowed 4)=true:=by kernel_rfl
theorem q_rec:(Rows.fnExactPackOfRow.recurses==Tryz.prog.recurses 4)=true:=by kernel_rfl
theorem q_named:(Rows.fnExactPackOfRow.named==Tryz.prog.varsNamed 4)=true:=by kernel_rfl
theorem q_heard:Tryz.prog.stopsHeard=true:=by kernel_rfl
theorem q_enter:Tryz.prog.mayEnter=true:=by kernel_rfl
theorem q_lifted:(Rows.fnExactPackOfRow.lifted==Tryz.prog.liftsFinal)=true:=by kernel_rfl
theorem q_keys:(Rows.fnExactPackOfRow.plainKeys==Tryz.prog.plainKeys)=true:=by kernel_rfl
theorem joined:joinedFacts Tryz.prog 4 Tryz.f4 Rows.fnExactPackOfSpec Rows.fnExactPackOfRow=true:=by
 simp only[joinedFacts,q_wf,laid,q_rowed,q_place,q_unf,q_rec,q_named,q_heard,q_enter,q_lifted,q_keys,Bool.true_and,Bool.and_true]
 kernel_rfl
theorem over:Rows.fnExactPackOfRow.holds Tryz.pinned (OpenSpec.ofChange Rows.fnExactPackOfSpec):=
 OpenClaim.holds_of_wide 4 Tryz.f4 rfl rfl rfl rfl rfl rfl rfl ⟨rfl,rfl,rfl,rfl,rfl⟩ rfl rfl rfl rfl rfl (by as_aux_lemma=>kernel_rfl) Tryz.func4 joined
  (of_decide_eq_true (by as_aux_lemma=>kernel_rfl)) (by unfold Func.isWrapper;first | (rw[if_pos (by decide+kernel)];kernel_rfl) | (rw[if_neg (by decide+kernel)];exact⟨rfl,rfl⟩))
  (fun os started H enc _=>lifted os started H enc)
theorem proved:Rows.FnExactPackOfCardSaid:=
 Claim7.holds_tied_plain_at .later [] [.data,.data,.data,.data,.pinned] true (true,"d401dabc5c84ccbfcbe90fbef7f4e526fe130c4436438595c089c75dc269813e") false
  over (fun _ h=>by cases h) (by as_aux_lemma=>kernel_rfl) (fun _ h=>by cases h) fnExactPackOf_row_tie rfl ⟨rfl,rfl⟩ (by as_aux_lemma=>kernel_rfl) rfl
  (fun f fn hf hfn=>by
   obtain rfl:f=4:=Option.some.inj ((show Tryz.prog.funcNamed "loop.example/g00464/laws.FnExactPackOf"=some 4 by kernel_rfl).symm.trans hf) |>.symm
   obtain rfl:fn=Tryz.f4:=(Option.some.inj (Tryz.func4.symm.trans hfn)).symm
   exact⟨by kernel_rfl,fun j t ht=>by
    rw[Tryz.params4] at ht
    have hm:t∈[48]:=by simpa using Array.mem_of_getElem? ht
    have hall:([48].all fun u=>!Tryz.prog.wantsStandIn u)=true:=by kernel_rfl
    exact(show Tryz.prog.wantsStandIn t=false by simpa using List.all_eq_true.1 hall t hm)⟩)
  (by as_aux_lemma=>kernel_rfl)
#print axioms proved
end Go.Proofs.YteenbnljpddleaaGreatDoor.fnExactPackOf
namespace Go.Proofs.YteenbnljpddleaaGreatDoor
theorem fnExactPackOf_holds:Rows.FnExactPackOfCardSaid:=fnExactPackOf.proved
end Go.Proofs.YteenbnljpddleaaGreatDoor

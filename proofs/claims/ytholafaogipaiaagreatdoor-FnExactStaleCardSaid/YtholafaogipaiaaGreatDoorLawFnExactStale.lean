/- Conditions: none. Functions: faa cmp_Compare_int, fab cmp_Compare_string, fac cmp_Or_int, fad cmp_isNaN_int, fae cmp_isNaN_string, faf impl_CmpOk, fag impl_InRange, fah impl_LockText, fai impl_MayTake, faj impl_NameOk, fak impl_NumText, fal impl_ParseLock, fam impl_ParseNum, fan impl_ParseRange, fao impl_ParseVer, fap impl_SameVer, faq impl_Solves, far impl_Stale, fas impl_VerOk, fat impl_VerText, fau impl_Wanted, fav impl_below, faw impl_caret, fax impl_cmpsOf, fay impl_compareVer, faz impl_compareWords, fba impl_entryAt, fbb impl_entryAt_1, fbc impl_inRange, fbd impl_isFigure, fbe impl_isFigures, fbf impl_isSmall, fbg impl_listOf, fbh impl_meets, fbi impl_nextOf, fbj impl_partOf, fbk impl_pickAt, fbl impl_pickAt_1, fbm impl_preOk, fbn impl_takes, fbo impl_wordCmps, fbp internal_bytealg_Cutover, fbq internal_bytealg_IndexRabinKarp_string, fbr internal_bytealg_hashStr_string, fbs internal_stringslite_Cut, fbt internal_stringslite_CutPrefix, fbu internal_stringslite_HasPrefix, fbv internal_stringslite_Index, fbw internal_stringslite_IndexByte, fbx laws_FnExactStale, fby laws_eqCmd, fbz laws_eqCmdS, fca laws_eqEntry, fcb laws_eqEntryS, fcc laws_eqNeed, fcd laws_eqNeedS, fce laws_eqPack, fcf laws_eqPackS, fcg laws_eqStringS, fch laws_eqVer, fci laws_szCmd, fcj laws_szCmdS, fck laws_szEntry, fcl laws_szEntryS, fcm laws_szNeed, fcn laws_szNeedS, fco laws_szPack, fcp laws_szPackS, fcq laws_szStringS, fcr laws_szVer, fcs laws_toCmd, fct laws_toCmdS, fcu laws_toEntry, fcv laws_toEntryS, fcw laws_toNeed, fcx laws_toNeedS, fcy laws_toPack, fcz laws_toPackS, fda laws_toStringS, fdb laws_toVer, fdc slices_CompareFunc_string, fdd slices_Equal_string, fde slices_IndexFunc_Entry, fdf slices_IndexFunc_Pick, fdg spec_CmpOk, fdh spec_EntryOf, fdi spec_InRange, fdj spec_LessVer, fdk spec_MayTake, fdl spec_NameOk, fdm spec_ParseLock, fdn spec_ParseNum, fdo spec_ParseRange, fdp spec_ParseVer, fdq spec_PickOf, fdr spec_SameVer, fds spec_Solves, fdt spec_Split, fdu spec_Stale, fdv spec_VerOk, fdw spec_Wanted, fdx spec_l10Ok, fdy spec_l1Digit, fdz spec_l1In, fea spec_l1Small, feb spec_l2SameTexts, fec spec_l3Copy, fed spec_l3Digits, fee spec_l3LessPart, fef spec_l3LessPre, feg spec_l3Part, feh spec_l3SameCore, fei spec_l4Below, fej spec_l4Caret, fek spec_l4From, fel spec_l4Good, fem spec_l4List, fen spec_l4Make, feo spec_l4Next, fep spec_l4Read, feq spec_l4Sides, fer spec_l4Tilde, fes spec_l4Trim, fet spec_l4Word, feu spec_l8Copy, fev spec_l9Met, few strconv_Itoa, fex strings_Builder_String, fey strings_Builder_WriteString, fez strings_Count, ffa strings_Cut, ffb strings_CutPrefix, ffc strings_Index, ffd strings_Join, ffe strings_Split, fff strings_Trim, ffg strings_explode, ffh strings_genSplit, ffi unicode_utf8_DecodeRuneInString, ffj unicode_utf8_RuneCountInString, ffk unicode_utf8_decodeRuneInStringSlow. -/
import Derived.Test.YtholafaogipaiaaGreatDoorRows
import Derived.Test.YtholafaogipaiaaGreatDoorKall
import Derived.WalkKit
import Derived.ProofKit
import Derived.OpenShut
import Derived.ShutString
import Derived.ChangeOld
import Derived.Below
import Derived.Carry
import Derived.SizedLaws
import Derived.Test.YtholafaogipaiaaGreatDoorTie
import Derived.Test.YtholafaogipaiaaGreatDoorCards
import Derived.LaidMore
import Derived.Lay
import Derived.SevenTiedAt
import Derived.Stop.Joined
import Derived.Stop.LaidErr
set_option linter.unusedSimpArgs false
set_option linter.unusedVariables false
namespace Go.Proofs.YtholafaogipaiaaGreatDoor.fnExactStale
open Go.ChangeShapes Go.WideShapes Go.ChangeAt Go.RowKit
theorem own:ownKnob Tryz.prog.godebug=none:=by kernel_rfl
theorem plain:([3,9,22,23,39,46,82,84,87,109,111,205]:List Nat).all (Ev.plainAt Ev.Γ0 [3,9,22,23,39,46,82,84,87,109,111,205])=true:=by kernel_rfl
theorem laid:laidOutB Tryz.prog=true:=by kernel_rfl
theorem handed_shaped {H:Type}{enc:TypeId×Value→H}{a:Assume}{C:Checked}{os:Os}{f:FuncId}{fn:Func}{s:ChangeSpec}{conds:List PathCond}{apart fresh handsOn again:Bool}{X:World→Array Value→Prop}
  (hX:∀ (w w':World) (args:Array Value),w.heap=w'.heap→X w args→X w' args)
  (own:ownKnob C.prog.godebug=none) (started:os.Started) (noInit:C.prog.inits.idxOf? f=none) (hfn:C.prog.funcs[f]?=some fn)
  (witness:∃ (w:World) (tape:Tape) (i:Input),w.os=os∧(w.forCall tape i).Shaped C.prog∧i.vars=[]∧Input.okWide C.prog (w.forCall tape i) .any w.heap.size f i∧
   ((s.pre enc C.prog fn conds apart (w.forCall tape i).memory i.args∧X (w.forCall tape i).memory i.args)∧sizedMet enc C.prog fn (OpenSpec.ofChange s) apart (w.forCall tape i).memory i.args)∧a.holds C.prog (lone (Frame.enter C.prog f i.args .normal) [] (w.forCall tape i)))
  (contract:∀ (W:World) (base:Nat) (args:Array Value) (ds gs:List (DataW H)) (before:List MemPlace),W.ShapedOpen C.prog→
   (∀ (j:Nat) t v,fn.params[j]?=some t→args[j]?=some v→Value.okWide C.prog W .any base t v)→
   DataW.Whole enc C.prog fn.params.toList s.vars apart W args.toList ds gs before→
   conds.all (PathCond.test C.prog ⟨fn.params.toList,ds,s.plain.varTypes C.prog,gs⟩)=true→
   (DataW.weightsEach C.prog (fn.params.toList++s.plain.varTypes C.prog) (ds++gs)).all (·≤reachBytes)=true→X W args→
   a.holds C.prog (lone (Frame.enter C.prog f args .normal) [] W)→
   Calls C.prog f args W fun e W'=>∃ v,e=.returned v∧s.post enc C.prog fn apart fresh handsOn again W args v W'):
  ReturnsInHanded a C os f .any (fun w args=>(s.pre enc C.prog fn conds apart w args∧X w args)∧sizedMet enc C.prog fn (OpenSpec.ofChange s) apart w args) (s.post enc C.prog fn apart fresh handsOn again):=by
 refine returnsInHanded_of_calls own started noInit witness ?_
 intro w tape i _ hsh _ hok hpre hholds
 obtain⟨_,_,_,fn',hfn',_,_,_,_,hval⟩:=hok
 have e:fn'=fn:=Option.some.inj (hfn'.symm.trans hfn)
 subst e
 obtain⟨⟨⟨ds,gs,before,hw,hc⟩,hx⟩,hz⟩:=hpre
 have hw':=DataW.Whole.of_heap (w':=w.forCall tape i) (by rfl) hw
 refine(contract (w.forCall tape i) w.heap.size i.args ds gs before hsh hval hw' hc (hz.weights hw) (hX _ _ _ (by rfl) hx) hholds).mono fun e W' ⟨v,he,hp⟩=>?_
 subst he
 exact ChangeSpec.post_blind hp
set_option maxRecDepth 100000 in
theorem lifted (os:Os)(started:os.Started)(H:Type)(enc:TypeId×Value→H):
  ReturnsInHanded {} Tryz.checked os 4 .any (fun w args=>(Rows.fnExactStaleSpec.pre enc Tryz.prog Tryz.f4 Rows.fnExactStaleRow.domain false w args∧laidMetH Tryz.prog Rows.fnExactStaleRow.laid w)∧sizedMet enc Tryz.prog Tryz.f4 (OpenSpec.ofChange Rows.fnExactStaleSpec) false w args)
   (Rows.fnExactStaleSpec.post enc Tryz.prog Tryz.f4 false true false false):=by
 refine handed_shaped (C:=Tryz.checked) (X:=fun w _=>laidMetH Tryz.prog Rows.fnExactStaleRow.laid w) (fun _ _ _ hh h=>h.of_heap hh) own started (by kernel_rfl) Tryz.func4
  (ChangeSpec.witness_shaped (enc:=enc) (C:=Tryz.checked) (os:=os) (X:=fun w _=>laidMetH Tryz.prog Rows.fnExactStaleRow.laid w) false (World.laidAll Tryz.prog os Rows.fnExactStaleRow.laid) #[.slice none 0 0,.slice none 0 0,.string ⟨#[]⟩] 8 (World.laidAll_os _ _ _)
   (World.shaped_of_ZipB (by kernel_rfl) (by kernel_rfl)) (by kernel_rfl) (by kernel_rfl) (by kernel_rfl)
   (by rw[MakeChecks.laidMetH_plain _ _ _ (by kernel_rfl)];exact laidMet_laidAll _ (by kernel_rfl) (by kernel_rfl))) ?_
 intro W base args ds gs before hSh hval0 hW hcnd hsz0 hL _
 have hval:∀ (j:Nat) t v,Tryz.f4.params[j]?=some t→args[j]?=some v→Value.okWide Tryz.prog W .any base t v:=hval0
 have hW':=hW
 obtain⟨p,q,hA0,hV,rfl,hfz,hnd⟩:=hW
 have hA:DataW.TrodAll enc Tryz.prog W 0 (fun _=>true) true Tryz.f4.params.toList args.toList ds p:=hA0
 rw[Tryz.params4] at hA hval
 obtain⟨v0,vs0,d0,ds0,p0,q0,hargs,rfl,rfl,h0,r0⟩:=trodAll_cons hA
 obtain⟨v1,vs1,d1,ds1,p1,q1,rfl,rfl,rfl,h1,r1⟩:=trodAll_cons r0
 obtain⟨v2,vs2,d2,ds2,p2,q2,rfl,rfl,rfl,h2,r2⟩:=trodAll_cons r1
 obtain⟨rfl,rfl,rfl⟩:=trodAll_nil r2
 obtain rfl:args=#[v0,v1,v2]:=by cases args;simp_all
 obtain⟨rfl,rfl⟩:=trodVars_none hV
 have hS:∀ t∈([3,9,22,23,39,46,82,84,87,109,111,205]:List Nat),Ev.plainAt Ev.Γ0 [3,9,22,23,39,46,82,84,87,109,111,205] t=true:=List.all_eq_true.1 plain
 have hΓ:Ev.CtxOk Tryz.prog Ev.Γ0:=Ev.ctxOk_of rfl Ev.tyTab_ok
 obtain⟨n0,cs0,wt0,av0⟩:=Ev.open_arg hΓ hS (t:=22) (r:=Ev.ty22) (by decide) (by kernel_rfl) (hval 0 22 v0 rfl rfl) h0
 obtain⟨x0,e0,b0⟩:=Ev.WT_slice (e0:=Ev.MEntry.enc) (b:=(Ev.MEntry.Bd maxLen)) wt0 (by kernel_rfl:Ev.Γ0.ty 22=some Ev.ty22) rfl (by kernel_rfl:Ev.Γ0.ty 84=some Ev.ty84) (fun n r h=>Ev.MEntry.of_wt _ _ h)
 subst e0
 obtain⟨n1,cs1,wt1,av1⟩:=Ev.open_arg hΓ hS (t:=39) (r:=Ev.ty39) (by decide) (by kernel_rfl) (hval 1 39 v1 rfl rfl) h1
 obtain⟨x1,e1,b1⟩:=Ev.WT_slice (e0:=Ev.MPack.enc) (b:=(Ev.MPack.Bd maxLen)) wt1 (by kernel_rfl:Ev.Γ0.ty 39=some Ev.ty39) rfl (by kernel_rfl:Ev.Γ0.ty 111=some Ev.ty111) (fun n r h=>Ev.MPack.of_wt _ _ h)
 subst e1
 obtain⟨n2,cs2,wt2,av2⟩:=Ev.open_arg hΓ hS (t:=9) (r:=Ev.ty9) (by decide) (by kernel_rfl) (hval 2 9 v2 rfl rfl) h2
 obtain⟨x2,e2,b2⟩:=Ev.WT_str wt2 (by kernel_rfl:Ev.Γ0.ty 9=some Ev.ty9) rfl
 subst e2
 clear hA0 hval0 hsz0
 have hL2:laidMet Tryz.prog Rows.fnExactStaleRow.laid W:=by
  have h:=hL
  rw[MakeChecks.laidMetH_plain _ _ _ (by kernel_rfl)] at h
  exact h
 have hT:Lib.TabIs Tryz.prog W "internal/strconv.uint64pow10" .u64 Lib.pow10Tab:=Lib.tabIs_of_head (g:=3) (t:=339) (e:=280) (n:=20) (by kernel_rfl) (by kernel_rfl) (by kernel_rfl) (by kernel_rfl) (by kernel_rfl) (by kernel_rfl) (show laidMet Tryz.prog (("internal/strconv.uint64pow10",Lib.tabData .u64 Lib.pow10Tab)::Rows.fnExactStaleRow.laid.tail.tail.tail) W from(laidMet.tail (laidMet.tail hL2)))
 refine(Ev.law_out Ev.ok_fbx (Ev.c_fbx x0 x1 x2 b0 b1 b2) ⟨Ev.okTab_start (by kernel_rfl) hT,Ev.okMax_start (Ev.okT_shape _ hSh)⟩ (.cons av0 (.cons av1 (.cons av2 (.nil))))).mono fun e W' ⟨he,bel⟩=>?_
 subst he
 exact⟨_,rfl,_,_,_,[],_,[],hW',trodAll_mk1 (shut_bool (by kernel_rfl) _),trodAll_cons_mk (RowKit.Below.trod laid (by kernel_rfl) (by decide+kernel) h0 bel (fun x hx=>DataW.trod_lt _ _ _ _ h0.choose_spec x hx)) (trodAll_cons_mk (RowKit.Below.trod laid (by kernel_rfl) (by decide+kernel) h1 bel (fun x hx=>DataW.trod_lt _ _ _ _ h1.choose_spec x hx)) (trodAll_cons_mk (RowKit.Below.trod laid (by kernel_rfl) (by decide+kernel) h2 bel (fun x hx=>DataW.trod_lt _ _ _ _ h2.choose_spec x hx)) (trodAll_mk0))),rfl,bel.frame _,fun h=>by cases h⟩
theorem q_wf:Rows.fnExactStaleRow.wf (OpenSpec.ofChange Rows.fnExactStaleSpec)=true:=by kernel_rfl
theorem q_rowed:mapsRowed Tryz.prog=true:=by kernel_rfl
theorem q_place:(Rows.fnExactStaleRow.inPlace==Tryz.prog.inPlace 4)=true:=by kernel_rfl
theorem q_unf:(Rows.fnExactStaleRow.unfollowed==Tryz.prog.unfollowed 4)=true:=by kernel_rfl
theorem q_rec:(Rows.fnExactStaleRow.recurses==Tryz.prog.recurses 4)=true:=by kernel_rfl
theorem q_named:(Rows.fnExactStaleRow.named==Tryz.prog.varsNamed 4)=true:=by kernel_rfl
theorem q_heard:Tryz.prog.stopsHeard=true:=by kernel_rfl
theorem q_enter:Tryz.prog.mayEnter=true:=by kernel_rfl
theorem q_lifted:(Rows.fnExactStaleRow.lifted==Tryz.prog.liftsFinal)=true:=by kernel_rfl
theorem q_keys:(Rows.fnExactStaleRow.plainKeys==Tryz.prog.plainKeys)=true:=by kernel_rfl
theorem joined:joinedFacts Tryz.prog 4 Tryz.f4 Rows.fnExactStaleSpec Rows.fnExactStaleRow=true:=by
 simp only[joinedFacts,q_wf,laid,q_rowed,q_place,q_unf,q_rec,q_named,q_heard,q_enter,q_lifted,q_keys,Bool.true_and,Bool.and_true]
 kernel_rfl
theorem over:Rows.fnExactStaleRow.holds Tryz.pinned (OpenSpec.ofChange Rows.fnExactStaleSpec):=
 OpenClaim.holds_of_wide 4 Tryz.f4 rfl rfl rfl rfl rfl rfl rfl ⟨rfl,rfl,rfl,rfl,rfl⟩ rfl rfl rfl rfl rfl (by as_aux_lemma=>kernel_rfl) Tryz.func4 joined
  (of_decide_eq_true (by as_aux_lemma=>kernel_rfl)) (by unfold Func.isWrapper;first | (rw[if_pos (by decide+kernel)];kernel_rfl) | (rw[if_neg (by decide+kernel)];exact⟨rfl,rfl⟩))
  (fun os started H enc _=>lifted os started H enc)
theorem proved:Rows.FnExactStaleCardSaid:=
 Claim7.holds_tied_plain_at .later [] [.data,.data,.data,.data,.pinned] true (true,"64123304e32161fbc38d25ab5148e26e3e4d11cc6757e5d6d6acebfe44a2e48c") false
  over (fun _ h=>by cases h) (by as_aux_lemma=>kernel_rfl) (fun _ h=>by cases h) fnExactStale_row_tie rfl ⟨rfl,rfl⟩ (by as_aux_lemma=>kernel_rfl) rfl
  (fun f fn hf hfn=>by
   obtain rfl:f=4:=Option.some.inj ((show Tryz.prog.funcNamed "loop.example/g00464/laws.FnExactStale"=some 4 by kernel_rfl).symm.trans hf) |>.symm
   obtain rfl:fn=Tryz.f4:=(Option.some.inj (Tryz.func4.symm.trans hfn)).symm
   exact⟨by kernel_rfl,fun j t ht=>by
    rw[Tryz.params4] at ht
    have hm:t∈[22,39,9]:=by simpa using Array.mem_of_getElem? ht
    have hall:([22,39,9].all fun u=>!Tryz.prog.wantsStandIn u)=true:=by kernel_rfl
    exact(show Tryz.prog.wantsStandIn t=false by simpa using List.all_eq_true.1 hall t hm)⟩)
  (by as_aux_lemma=>kernel_rfl)
#print axioms proved
end Go.Proofs.YtholafaogipaiaaGreatDoor.fnExactStale
namespace Go.Proofs.YtholafaogipaiaaGreatDoor
theorem fnExactStale_holds:Rows.FnExactStaleCardSaid:=fnExactStale.proved
end Go.Proofs.YtholafaogipaiaaGreatDoor

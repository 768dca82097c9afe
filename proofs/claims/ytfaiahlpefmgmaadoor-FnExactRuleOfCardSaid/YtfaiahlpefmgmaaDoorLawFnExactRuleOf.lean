/- The statement FnExactRuleOfCardSaid: for every input the law answers true, and each argument reads as it did. Conditions: none. -/
/- Functions: faa impl_GlobOk, fab impl_NameOk, fac impl_OnOk, fad impl_RuleOf, fae impl_Rule_field, faf impl_ValOk, fag impl_Val_isMap, fah impl_Val_measure, fai impl_Val_plainOk, faj impl_inRange, fak impl_isAscending, fal impl_isFigure, fam impl_isNoVText, fan impl_isPathByte, fao impl_isPlain, fap impl_isSmall, faq impl_isVByte, far impl_namesOk, fas impl_pieceOk, fat impl_ruleOk, fau impl_textsOf, fav impl_unitOf, faw impl_vTextOk, fax internal_bytealg_Cutover, fay internal_bytealg_IndexRabinKarp_string, faz internal_bytealg_hashStr_string, fba internal_stringslite_Cut, fbb internal_stringslite_HasPrefix, fbc internal_stringslite_Index, fbd internal_stringslite_IndexByte, fbe internal_stringslite_TrimPrefix, fbf laws_FnExactRuleOf, fbg laws_eqRule, fbh laws_eqStringS, fbi laws_eqVal, fbj laws_eqValS, fbk laws_heldRule, fbl laws_heldStringS, fbm laws_markRule, fbn laws_markStringS, fbo laws_markText, fbp laws_markVal, fbq laws_markValS, fbr laws_szStringS, fbs laws_szVal, fbt laws_szValS, fbu laws_toStringS, fbv laws_toVal, fbw laws_toValS, fbx slices_ContainsFunc_string, fby slices_IndexFunc_string, fbz spec_GlobOk, fca spec_NameOk, fcb spec_OnOk, fcc spec_RuleOf, fcd spec_Split, fce spec_ValOk, fcf spec_l12Put, fcg spec_l12Rule, fch spec_l1Digit, fci spec_l1In, fcj spec_l1Small, fck spec_l2Count, fcl spec_l2Here, fcm spec_l2Text, fcn spec_l5Letter, fco spec_l6Class, fcp spec_l6Piece, fcq spec_l7Names, fcr spec_l7Texts, fcs strings_Count, fct strings_Cut, fcu strings_HasPrefix, fcv strings_Index, fcw strings_Split, fcx strings_TrimPrefix, fcy strings_explode, fcz strings_genSplit, fda unicode_utf8_DecodeRuneInString, fdb unicode_utf8_RuneCountInString, fdc unicode_utf8_decodeRuneInStringSlow. -/
import Derived.Test.YtfaiahlpefmgmaaDoorRows
import Derived.Test.YtfaiahlpefmgmaaDoorKFnExactRuleOf
import Derived.WalkKit
import Derived.ProofKit
import Derived.OpenShut
import Derived.ShutString
import Derived.ChangeOld
import Derived.Below
import Derived.Carry
import Derived.SizedLaws
import Derived.Test.YtfaiahlpefmgmaaDoorTie
import Derived.Test.YtfaiahlpefmgmaaDoorCards
import Derived.LaidMore
import Derived.Lay
import Derived.SevenTiedAt
import Derived.Stop.Joined
import Derived.Stop.LaidErr
set_option linter.unusedSimpArgs false
set_option linter.unusedVariables false
namespace Go.Proofs.YtfaiahlpefmgmaaDoor.fnExactRuleOf
open Go.ChangeShapes Go.WideShapes Go.ChangeAt Go.RowKit
theorem own:ownKnob Tryd.prog.godebug=none:=by kernel_rfl
theorem plain:([3,9,22,23,25]:List Nat).all (Ev.plainAt Ev.Γ0 [3,9,22,23,25])=true:=by kernel_rfl
theorem laid:laidOutB Tryd.prog=true:=by kernel_rfl
set_option maxRecDepth 100000 in
theorem lifted (os:Os)(started:os.Started)(H:Type)(enc:TypeId×Value→H):
  ReturnsInHanded {} Tryd.checked os 3 .any (fun w args=>(Rows.fnExactRuleOfSpec.pre enc Tryd.prog Tryd.f3 Rows.fnExactRuleOfRow.domain false w args∧laidMetH Tryd.prog Rows.fnExactRuleOfRow.laid w)∧sizedMet enc Tryd.prog Tryd.f3 (OpenSpec.ofChange Rows.fnExactRuleOfSpec) false w args)
   (Rows.fnExactRuleOfSpec.post enc Tryd.prog Tryd.f3 false true false false):=by
 refine returnsInHanded_of_change_and (C:=Tryd.checked) (X:=fun w _=>laidMetH Tryd.prog Rows.fnExactRuleOfRow.laid w) (fun _ _ _ hh h=>h.of_heap hh) own started (by kernel_rfl) Tryd.func3
  (ChangeSpec.witness_shaped (enc:=enc) (C:=Tryd.checked) (os:=os) (X:=fun w _=>laidMetH Tryd.prog Rows.fnExactRuleOfRow.laid w) false (World.laidAll Tryd.prog os Rows.fnExactRuleOfRow.laid) #[.string ⟨#[]⟩,.agg #[.int .i64 0,.int .i64 0,.string ⟨#[]⟩,.slice none 0 0,.slice none 0 0]] 8 (World.laidAll_os _ _ _)
   (World.shaped_of_ZipB (by kernel_rfl) (by kernel_rfl)) (by kernel_rfl) (by kernel_rfl) (by kernel_rfl)
   (by rw[MakeChecks.laidMetH_plain _ _ _ (by kernel_rfl)];exact laidMet_laidAll _ (by kernel_rfl) (by kernel_rfl))) ?_
 intro W base args ds gs before hval0 hW hcnd hsz0 hL _
 have hval:∀ (j:Nat) t v,Tryd.f3.params[j]?=some t→args[j]?=some v→Value.okWide Tryd.prog W .any base t v:=hval0
 have hW':=hW
 obtain⟨p,q,hA0,hV,rfl,hfz,hnd⟩:=hW
 have hA:DataW.TrodAll enc Tryd.prog W 0 (fun _=>true) true Tryd.f3.params.toList args.toList ds p:=hA0
 rw[Tryd.params3] at hA hval
 obtain⟨v0,vs0,d0,ds0,p0,q0,hargs,rfl,rfl,h0,r0⟩:=trodAll_cons hA
 obtain⟨v1,vs1,d1,ds1,p1,q1,rfl,rfl,rfl,h1,r1⟩:=trodAll_cons r0
 obtain⟨rfl,rfl,rfl⟩:=trodAll_nil r1
 obtain rfl:args=#[v0,v1]:=by cases args;simp_all
 obtain⟨rfl,rfl⟩:=trodVars_none hV
 have hS:∀ t∈([3,9,22,23,25]:List Nat),Ev.plainAt Ev.Γ0 [3,9,22,23,25] t=true:=List.all_eq_true.1 plain
 have hΓ:Ev.CtxOk Tryd.prog Ev.Γ0:=Ev.ctxOk_of rfl Ev.tyTab_ok
 obtain⟨n0,cs0,wt0,av0⟩:=Ev.open_arg hΓ hS (t:=9) (r:=Ev.ty9) (by decide) (by kernel_rfl) (hval 0 9 v0 rfl rfl) h0
 obtain⟨x0,e0,b0⟩:=Ev.WT_str wt0 (by kernel_rfl:Ev.Γ0.ty 9=some Ev.ty9) rfl
 subst e0
 obtain⟨n1,cs1,wt1,av1⟩:=Ev.open_arg hΓ hS (t:=25) (r:=Ev.ty25) (by decide) (by kernel_rfl) (hval 1 25 v1 rfl rfl) h1
 obtain⟨x1,e1,b1⟩:=Ev.MVal.of_wt _ _ wt1
 subst e1
 rw[Ev.enc_V] at av1
 clear hA0 hval0 hsz0
 refine(Ev.law_out Ev.ok_fbf (Ev.c_fbf x0 x1 b0 b1) trivial (.cons av0 (.cons av1 (.nil)))).mono fun e W' ⟨he,bel⟩=>?_
 subst he
 exact⟨_,rfl,_,_,_,[],_,[],hW',trodAll_mk1 (shut_bool (by kernel_rfl) _),trodAll_cons_mk (RowKit.Below.trod laid (by kernel_rfl) (by decide+kernel) h0 bel (fun x hx=>DataW.trod_lt _ _ _ _ h0.choose_spec x hx)) (trodAll_cons_mk (RowKit.Below.trod laid (by kernel_rfl) (by decide+kernel) h1 bel (fun x hx=>DataW.trod_lt _ _ _ _ h1.choose_spec x hx)) (trodAll_mk0)),rfl,bel.frame _,fun h=>by cases h⟩
theorem over:Rows.fnExactRuleOfRow.holds Tryd.pinned (OpenSpec.ofChange Rows.fnExactRuleOfSpec):=
 OpenClaim.holds_of_wide 3 Tryd.f3 rfl rfl rfl rfl rfl rfl rfl ⟨rfl,rfl,rfl,rfl,rfl⟩ rfl rfl rfl rfl rfl (by kernel_rfl) Tryd.func3 (by kernel_rfl)
  (of_decide_eq_true (by kernel_rfl)) (by unfold Func.isWrapper;first | (rw[if_pos (by decide+kernel)];kernel_rfl) | (rw[if_neg (by decide+kernel)];exact⟨rfl,rfl⟩))
  (fun os started H enc _=>lifted os started H enc)
theorem proved:Rows.FnExactRuleOfCardSaid:=
 Claim7.holds_tied_plain_at .later [] [.data,.pinned] true (true,"68925848dcf0d2d9afa5457c6031005616df0a37a6e1d5158e50ce89f9ca9f4f") false
  over (fun _ h=>by cases h) (by kernel_rfl) (fun _ h=>by cases h) fnExactRuleOf_row_tie rfl ⟨rfl,rfl⟩ (by kernel_rfl) rfl
  (fun f fn hf hfn=>by
   obtain rfl:f=3:=Option.some.inj ((show Tryd.prog.funcNamed "loop.example/g00464/laws.FnExactRuleOf"=some 3 by kernel_rfl).symm.trans hf) |>.symm
   obtain rfl:fn=Tryd.f3:=(Option.some.inj (Tryd.func3.symm.trans hfn)).symm
   exact⟨by kernel_rfl,fun j t ht=>by
    rw[Tryd.params3] at ht
    have hm:t∈[9,25]:=by simpa using Array.mem_of_getElem? ht
    have hall:([9,25].all fun u=>!Tryd.prog.wantsStandIn u)=true:=by kernel_rfl
    exact(show Tryd.prog.wantsStandIn t=false by simpa using List.all_eq_true.1 hall t hm)⟩)
  (by kernel_rfl)
#print axioms proved
end Go.Proofs.YtfaiahlpefmgmaaDoor.fnExactRuleOf
namespace Go.Proofs.YtfaiahlpefmgmaaDoor
theorem fnExactRuleOf_holds:Rows.FnExactRuleOfCardSaid:=fnExactRuleOf.proved
end Go.Proofs.YtfaiahlpefmgmaaDoor
